/- A part of the proof; the last text states what is proved. -/
import Derived.Test.YtckobjgahmmkaaaP4
import Derived.Ground.NamesProg
import Derived.Ground.Names2Prog
import Derived.Shelf.Lay
import Derived.Test.YtckobjgahmmkaaaProg
import Derived.Test.YtckobjgahmmkaaaRows
import Derived.ProofKit
/- From the reader's shapes to terms and orders. -/
namespace Go.Abs
section
variable {P : Program}
theorem shape_int {n : Nat} {t : TypeId} {r : List C} {k : IntKind} (hu : P.underlying t = some (.int k)) (h : Shape P n t r) : ∃ m : Int, r = [.int k m] ∧ (Lit.int k m).wf = true := by
  cases n with
  | zero => exact h.elim
  | succ n => simp only [Shape, hu] at h; exact h
theorem shape_bool {n : Nat} {t : TypeId} {r : List C} (hu : P.underlying t = some .bool) (h : Shape P n t r) : ∃ b : Bool, r = [.bool b] := by
  cases n with
  | zero => exact h.elim
  | succ n => simp only [Shape, hu] at h; exact h
theorem shape_str {n : Nat} {t : TypeId} {r : List C} (hu : P.underlying t = some .string) (h : Shape P n t r) : ∃ s : List UInt8, r = [.str s] ∧ s.length ≤ 9223372036854775807 := by
  cases n with
  | zero => exact h.elim
  | succ n => simp only [Shape, hu] at h; exact h
theorem shape_slice {n : Nat} {t e : TypeId} {r : List C} (hu : P.underlying t = some (.slice e)) (h : Shape P n t r) : ∃ m rows, n = m + 1 ∧ r = [lstC (P.cellsOf e) rows] ∧ rows.length ≤ 9223372036854775807 ∧ ∀ x ∈ rows, Shape P m e x := by
  cases n with
  | zero => exact h.elim
  | succ n => simp only [Shape, hu] at h; obtain ⟨rows, h1, h2, h3⟩ := h; exact ⟨n, rows, rfl, h1, h2, h3⟩
theorem shape_struct {n : Nat} {t : TypeId} {fs : Array Field} {r : List C} (hu : P.underlying t = some (.struct fs)) (h : Shape P n t r) : ∃ m rs, n = m + 1 ∧ r = rs.flatten ∧ ShapeL (Shape P m) (fs.toList.map (·.type)) rs := by
  cases n with
  | zero => exact h.elim
  | succ n => simp only [Shape, hu] at h; obtain ⟨rs, h1, h2⟩ := h; exact ⟨n, rs, rfl, h1, h2⟩
theorem shapeL2 {S : TypeId → List C → Prop} {a b : TypeId} {rs : List (List C)} (h : ShapeL S [a, b] rs) : ∃ x y, rs = [x, y] ∧ S a x ∧ S b y := by
  match rs, h with
  | [x, y], h => exact ⟨x, y, rfl, h.1, h.2.1⟩
theorem shapeL3 {S : TypeId → List C → Prop} {a b c : TypeId} {rs : List (List C)} (h : ShapeL S [a, b, c] rs) : ∃ x y z, rs = [x, y, z] ∧ S a x ∧ S b y ∧ S c z := by
  match rs, h with
  | [x, y, z], h => exact ⟨x, y, z, rfl, h.1, h.2.1, h.2.2.1⟩
theorem shapeL4 {S : TypeId → List C → Prop} {a b c d : TypeId} {rs : List (List C)} (h : ShapeL S [a, b, c, d] rs) : ∃ x y z u, rs = [x, y, z, u] ∧ S a x ∧ S b y ∧ S c z ∧ S d u := by
  match rs, h with
  | [x, y, z, u], h => exact ⟨x, y, z, u, rfl, h.1, h.2.1, h.2.2.1, h.2.2.2.1⟩
theorem rows_of {α : Type} {S : List C → Prop} (enc : α → List C) (hS : ∀ r, S r → ∃ a, r = enc a) : ∀ (rows : List (List C)), (∀ r ∈ rows, S r) → ∃ l : List α, rows = l.map enc
  | [], _ => ⟨[], rfl⟩
  | r :: rows, h => by
    obtain ⟨a, ha⟩ := hS r (h r (by simp))
    obtain ⟨l, hl⟩ := rows_of enc hS rows (fun x hx => h x (by simp [hx]))
    exact ⟨a :: l, by rw [ha, hl]; rfl⟩
/-- the types of terms and orders -/
structure TermTypes (P : Program) (tI tB tS tT tLT tR tLR tC tLC tO : TypeId) : Prop where
  i : P.underlying tI = some (.int .i64)
  b : P.underlying tB = some .bool
  s : P.underlying tS = some .string
  t : ∃ fs, P.underlying tT = some (.struct fs) ∧ fs.toList.map (·.type) = [tI, tI, tLT]
  lt : P.underlying tLT = some (.slice tT) ∧ P.cellsOf tT = 3
  r : ∃ fs, P.underlying tR = some (.struct fs) ∧ fs.toList.map (·.type) = [tI, tT]
  lr : P.underlying tLR = some (.slice tR) ∧ P.cellsOf tR = 4
  c : ∃ fs, P.underlying tC = some (.struct fs) ∧ fs.toList.map (·.type) = [tI, tI, tB]
  lc : P.underlying tLC = some (.slice tC) ∧ P.cellsOf tC = 3
  o : ∃ fs, P.underlying tO = some (.struct fs) ∧ fs.toList.map (·.type) = [tS, tB, tLC, tLR]
variable {tI tB tS tT tLT tR tLR tC tLC tO : TypeId}
theorem shape_term (h : TermTypes P tI tB tS tT tLT tR tLR tC tLC tO) : ∀ (n : Nat) (r : List C), Shape P n tT r → ∃ t : Term, r = encT t := by
  intro n
  induction n using Nat.strongRecOn with
  | ind n ih =>
    intro r hr
    obtain ⟨fs, hf, hl⟩ := h.t
    obtain ⟨m, rs, rfl, rfl, hs⟩ := shape_struct hf hr
    rw [hl] at hs
    obtain ⟨x, y, z, rfl, h1, h2, h3⟩ := shapeL3 hs
    obtain ⟨op, rfl, _⟩ := shape_int h.i h1
    obtain ⟨k, rfl, _⟩ := shape_int h.i h2
    obtain ⟨m', rows, rfl, rfl, _, h4⟩ := shape_slice h.lt.1 h3
    obtain ⟨l, rfl⟩ := rows_of encT (fun r hr => ih m' (by omega) r hr) rows h4
    exact ⟨.mk op k l, by rw [encT_eq, h.lt.2]; rfl⟩
theorem shape_rule (h : TermTypes P tI tB tS tT tLT tR tLR tC tLC tO) {n : Nat} {r : List C} (hr : Shape P n tR r) : ∃ x : Rule, r = encRule x := by
  obtain ⟨fs, hf, hl⟩ := h.r
  obtain ⟨m, rs, rfl, rfl, hs⟩ := shape_struct hf hr
  rw [hl] at hs
  obtain ⟨x, y, rfl, h1, h2⟩ := shapeL2 hs
  obtain ⟨a, rfl, _⟩ := shape_int h.i h1
  obtain ⟨t, rfl⟩ := shape_term h m y h2
  exact ⟨⟨a, t⟩, by simp [encRule]⟩
theorem shape_choice (h : TermTypes P tI tB tS tT tLT tR tLR tC tLC tO) {n : Nat} {r : List C} (hr : Shape P n tC r) : ∃ x : Choice, r = encChoice x := by
  obtain ⟨fs, hf, hl⟩ := h.c
  obtain ⟨m, rs, rfl, rfl, hs⟩ := shape_struct hf hr
  rw [hl] at hs
  obtain ⟨x, y, z, rfl, h1, h2, h3⟩ := shapeL3 hs
  obtain ⟨a, rfl, _⟩ := shape_int h.i h1
  obtain ⟨b, rfl, _⟩ := shape_int h.i h2
  obtain ⟨c, rfl⟩ := shape_bool h.b h3
  exact ⟨⟨a, b, c⟩, rfl⟩
theorem shape_order (h : TermTypes P tI tB tS tT tLT tR tLR tC tLC tO) {n : Nat} {r : List C} (hr : Shape P n tO r) : ∃ x : Order, r = encOrder x := by
  obtain ⟨fs, hf, hl⟩ := h.o
  obtain ⟨m, rs, rfl, rfl, hs⟩ := shape_struct hf hr
  rw [hl] at hs
  obtain ⟨x, y, z, u, rfl, h1, h2, h3, h4⟩ := shapeL4 hs
  obtain ⟨a, rfl, _⟩ := shape_str h.s h1
  obtain ⟨b, rfl⟩ := shape_bool h.b h2
  obtain ⟨_, rows, _, rfl, _, h5⟩ := shape_slice h.lc.1 h3
  obtain ⟨_, rows', _, rfl, _, h6⟩ := shape_slice h.lr.1 h4
  obtain ⟨l, rfl⟩ := rows_of encChoice (fun r hr => shape_choice h hr) rows h5
  obtain ⟨l', rfl⟩ := rows_of encRule (fun r hr => shape_rule h hr) rows' h6
  exact ⟨⟨a, b, l, l'⟩, by rw [h.lc.2, h.lr.2]; rfl⟩
theorem arg_order (h : TermTypes P tI tB tS tT tLT tR tLR tC tLC tO) {n : Nat} {r : List C} (hr : Shape P n tO r) : ∃ x : Order, argV P tO r = .agg (encOrder x) := by
  obtain ⟨x, rfl⟩ := shape_order h hr
  obtain ⟨fs, hf, _⟩ := h.o
  exact ⟨x, by simp only [argV, hf]⟩
theorem arg_term (h : TermTypes P tI tB tS tT tLT tR tLR tC tLC tO) {n : Nat} {r : List C} (hr : Shape P n tT r) : ∃ x : Term, argV P tT r = .agg (encT x) := by
  obtain ⟨x, rfl⟩ := shape_term h n r hr
  obtain ⟨fs, hf, _⟩ := h.t
  exact ⟨x, by simp only [argV, hf]⟩
theorem arg_int {n : Nat} {t : TypeId} {r : List C} {k : IntKind} (hu : P.underlying t = some (.int k)) (hr : Shape P n t r) : ∃ m : Int, argV P t r = .int k m ∧ (Lit.int k m).wf = true := by
  obtain ⟨m, rfl, h⟩ := shape_int hu hr
  exact ⟨m, by simp only [argV, hu], h⟩
end
end Go.Abs

/- The program's functions over terms, as plain functions; no program in sight. -/
namespace Go.Abs
def cut (n : Int) : Int := min (max n (-1099511627776)) 1099511627776
theorem cut_eq (n : Int) : cut n = n ↔ -1099511627776 ≤ n ∧ n ≤ 1099511627776 := by unfold cut; omega
def varType (v : Int) : Option Int := if v < 0 ∨ v > 19 then none else if v < 7 then some 0 else some 1
def varTypeV (v : Int) : V := .tup [.int .i64 ((varType v).getD 0), .bool (varType v).isSome]
def leaf (t : Term) : Int × Int :=
  if t.args.length > 0 then (0, 2) else if t.op = 0 then (if cut t.n ≠ t.n then (0, 3) else (0, 0)) else if t.op = 1 then (if t.n < 0 ∨ t.n > 1 then (0, 3) else (1, 0))
  else match varType t.n with | none => (0, 10) | some k => (k, 0)
def pairV (p : Int × Int) : V := .tup [.int .i64 p.1, .int .i64 p.2]
def arity (op : Int) : Int := if op = 0 ∨ op = 1 ∨ op = 2 then 0 else if op = 3 then 1 else if op = 6 then 3 else 2
mutual
def nodes : Term → Int → Int → Int
  | .mk _ _ a, k, lv => if lv < 1 then -1 else nodesL a (k - 1) (lv - 1)
def nodesL : List Term → Int → Int → Int
  | [], k, _ => k
  | t :: l, k, lv => if k < 0 then k else nodesL l (nodes t k lv) lv
end
theorem nodes_eq (t : Term) (k lv : Int) : nodes t k lv = if lv < 1 then -1 else nodesL t.args (k - 1) (lv - 1) := by cases t; simp [nodes, Term.args]
mutual
theorem nodes_bd : ∀ (t : Term) (k lv : Int), 0 ≤ k → -1 ≤ nodes t k lv ∧ nodes t k lv ≤ k
  | .mk _ _ a, k, lv, h => by
    simp only [nodes]
    split
    · omega
    · have := nodesL_bd a (k - 1) (lv - 1) (by omega); omega
theorem nodesL_bd : ∀ (l : List Term) (k lv : Int), -1 ≤ k → -1 ≤ nodesL l k lv ∧ nodesL l k lv ≤ k
  | [], k, lv, h => by simp [nodesL, h]
  | t :: l, k, lv, h => by
    simp only [nodesL]
    split
    · omega
    · have h1 := nodes_bd t k lv (by omega)
      have := nodesL_bd l (nodes t k lv) lv h1.1
      omega
end

theorem nodesL_drop {l : List Term} {i : Nat} (h : i < l.length) (k lv : Int) : nodesL (l.drop i) k lv = if k < 0 then k else nodesL (l.drop (i + 1)) (nodes l[i] k lv) lv := by
  rw [List.drop_eq_getElem_cons h, nodesL]
theorem nodesL_neg (l : List Term) (k lv : Int) (h : k < 0) : nodesL l k lv = k := by
  cases l <;> simp [nodesL, h]

theorem norm_T (t : Term) : C.normRow [C.int .i64 t.op, C.int .i64 t.n, C.list (if (List.map encT t.args).isEmpty = true then 0 else 3) none (List.map encT t.args)] = encT t := by
  have h := encT_norm t
  rw [encT_eq] at h
  exact h.trans (encT_eq t).symm
/-- term.measure -/
def measL (m : Term → Int) : List Term → Int → Int
  | [], n => n
  | a :: l, n => if n + m a > 60 then n + m a else measL m l (n + m a)
def meas : Nat → Term → Int
  | 0, _ => 61
  | f + 1, t => measL (meas f) t.args 1
theorem measL_bd {m : Term → Int} {M : Int} (hm : ∀ a, 1 ≤ m a ∧ m a ≤ M) (hM : 1 ≤ M) : ∀ (l : List Term) (n : Int), 1 ≤ n → n ≤ 60 → 1 ≤ measL m l n ∧ measL m l n ≤ 60 + M
  | [], n, h1, h2 => by simp only [measL]; omega
  | a :: l, n, h1, h2 => by
    simp only [measL]
    have := hm a
    split
    · omega
    · exact measL_bd hm hM l _ (by omega) (by omega)
theorem meas_bd : ∀ (f : Nat) (t : Term), 1 ≤ meas f t ∧ meas f t ≤ 61 + 60 * f
  | 0, t => by simp [meas]
  | f + 1, t => by
    have := measL_bd (m := meas f) (M := 61 + 60 * f) (meas_bd f) (by omega) t.args 1 (by omega) (by omega)
    simp only [meas]
    omega
theorem measL_drop {m : Term → Int} {l : List Term} {i : Nat} (h : i < l.length) (n : Int) : measL m (l.drop i) n = if n + m l[i] > 60 then n + m l[i] else measL m (l.drop (i + 1)) (n + m l[i]) := by
  rw [List.drop_eq_getElem_cons h, measL]
def shapeArgs (op : Int) : List Int := if op = 3 then [1] else if op = 4 ∨ op = 5 then [1, 1] else if op = 6 then [1, -1, -1] else if op = 7 then [0, 0] else if op = 8 then [-1, -1] else [0, 0]
def shapeRes (op : Int) : Int := if op = 3 then 1 else if op = 4 ∨ op = 5 then 1 else if op = 6 then -1 else if op = 7 then 1 else if op = 8 then 1 else 0
def shapeV (op : Int) : V := .agk [.newl 3 1 none (ints (shapeArgs op)), .c (.int .i64 (shapeRes op))]
/-- do the types fit the shape? the common type where one is asked for -/
def fit : List Int → List Int → Int → Option Int
  | [], _, c => some c
  | _, [], c => some c
  | w :: ws, ty :: tys, c =>
    let c' := if w = -1 ∧ c = -1 then ty else c
    if ty ≠ (if w = -1 then c' else w) then none else fit ws tys c'
def node (t : Term) (tys : List Int) : Int × Int :=
  if t.op < 0 ∨ t.op > 13 then (0, 1) else if t.op = 0 ∨ t.op = 1 ∨ t.op = 2 then leaf t
  else if tys.length ≠ (shapeArgs t.op).length ∨ t.n ≠ 0 then (0, 2)
  else match fit (shapeArgs t.op) tys (-1) with
    | none => (0, 11)
    | some c => if shapeRes t.op = -1 then (c, 0) else (shapeRes t.op, 0)
mutual
def chk : Term → Int × Int
  | .mk o n a => if (chkA a []).1 ≠ 0 then (0, (chkA a []).1) else node (.mk o n a) (chkA a []).2
def chkA : List Term → List Int → Int × List Int
  | [], ty => (0, ty)
  | t :: l, ty => if (chk t).2 ≠ 0 then ((chk t).2, []) else chkA l (ty ++ [(chk t).1])
end
theorem chk_eq (t : Term) : chk t = if (chkA t.args []).1 ≠ 0 then (0, (chkA t.args []).1) else node t (chkA t.args []).2 := by cases t; simp only [chk, Term.args]; rfl
theorem chkA_drop {l : List Term} {i : Nat} (h : i < l.length) (ty : List Int) : chkA (l.drop i) ty = if (chk l[i]).2 ≠ 0 then ((chk l[i]).2, []) else chkA (l.drop (i + 1)) (ty ++ [(chk l[i]).1]) := by
  rw [List.drop_eq_getElem_cons h, chkA]
/-- no node has more than 1000 arguments -/
def Narrow : Nat → Term → Prop
  | 0, _ => False
  | f + 1, t => t.args.length ≤ 1000 ∧ ∀ a ∈ t.args, Narrow f a
theorem set_at {l : List Int} {n : Nat} {x : Int} {i : Nat} (hl : l.length = i) (h : i < n) :
    (ints l ++ List.replicate (n - i) [C.int .i64 0]).set i [C.int .i64 x] = ints (l ++ [x]) ++ List.replicate (n - (i + 1)) [C.int .i64 0] := by
  obtain ⟨m, hm⟩ : ∃ m, n - i = m + 1 := ⟨n - i - 1, by omega⟩
  have hm2 : n - (i + 1) = m := by omega
  rw [hm, hm2, List.replicate_succ, List.set_append_right _ _ (by simp [ints, hl])]
  simp [ints, hl]
theorem fit_drop {ws tys : List Int} {j : Nat} (h1 : j < ws.length) (h2 : j < tys.length) (c : Int) : fit (ws.drop j) (tys.drop j) c =
    if tys[j] ≠ (if ws[j] = -1 then (if ws[j] = -1 ∧ c = -1 then tys[j] else c) else ws[j]) then none else fit (ws.drop (j + 1)) (tys.drop (j + 1)) (if ws[j] = -1 ∧ c = -1 then tys[j] else c) := by
  rw [List.drop_eq_getElem_cons h1, List.drop_eq_getElem_cons h2, fit]
theorem fit_end (ws tys : List Int) (c : Int) (h : ws = []) : fit ws tys c = some c := by subst h; cases tys <;> rfl
theorem shape_small (op : Int) : (shapeArgs op).length ≤ 3 := by unfold shapeArgs; (repeat' split) <;> simp
theorem len_args {t : Term} {P : Prop} (h : (∀ v, v ∈ [V.agg (encT t)] → ∀ c, c ∈ v.topC → ∀ sz nl rows, c = .list sz nl rows → rows.length ≤ 9223372036854775807)) : t.args.length ≤ 9223372036854775807 := by
  have := h _ List.mem_cons_self (lstC 3 (t.args.map encT)) (by rw [encT_eq]; simp [V.topC]) _ _ _ rfl
  simpa using this
end Go.Abs

/- The program's functions over terms, as plain functions (2): values, variables; and what is true of them. -/
namespace Go.Abs

theorem Term.ind {P : Term → Prop} (h : ∀ o n a, (∀ x ∈ a, P x) → P (.mk o n a)) : ∀ t, P t := by
  have key : ∀ k, ∀ t : Term, SizeOf.sizeOf t < k → P t := by
    intro k
    induction k with
    | zero => intro t ht; omega
    | succ k ih =>
      rintro ⟨o, n, a⟩ ht
      refine h o n a fun x hx => ih x ?_
      have := List.sizeOf_lt_of_mem hx
      simp at ht
      omega
  exact fun t => key _ t (Nat.lt_succ_self _)

/-! ### Check -/
/-- term.Check -/
def checkT (t : Term) : Int × Int := if nodes t 60 8 < 0 then (0, 6) else chk t
def few (t : Term) : Bool := decide (nodes t 100 20 ≥ 0)

theorem measL_ge {m : Term → Int} (hm : ∀ a, 1 ≤ m a) : ∀ (l : List Term) (n : Int), n ≤ measL m l n
  | [], n => by simp [measL]
  | b :: l, n => by
    have := hm b
    have := measL_ge hm l (n + m b)
    simp only [measL]; split <;> omega
theorem measL_big {m : Term → Int} (hm : ∀ a, 1 ≤ m a) : ∀ (l : List Term) (n : Int), n > 60 → l ≠ [] → measL m l n > 60
  | [], _, _, h => absurd rfl h
  | a :: l, n, h, _ => by
    simp only [measL]
    have := hm a
    split <;> omega

/-- the two ways of counting agree -/
theorem meas_nodes : ∀ (f : Nat),
    (∀ (t : Term) (c : Int), 0 ≤ c → c < 60 → (nodes t (60 - c) f < 0 ↔ c + meas f t > 60) ∧ (0 ≤ nodes t (60 - c) f → nodes t (60 - c) f = 60 - c - meas f t)) ∧
    (∀ (l : List Term) (c n : Int), 0 ≤ c → 1 ≤ n → c + n ≤ 60 → (nodesL l (60 - c - n) f < 0 ↔ c + measL (meas f) l n > 60) ∧ (0 ≤ nodesL l (60 - c - n) f → nodesL l (60 - c - n) f = 60 - c - measL (meas f) l n)) := by
  intro f
  induction f with
  | zero =>
    have h1 : ∀ (t : Term) (c : Int), 0 ≤ c → c < 60 → (nodes t (60 - c) ((0 : Nat) : Int) < 0 ↔ c + meas 0 t > 60) ∧ (0 ≤ nodes t (60 - c) ((0 : Nat) : Int) → nodes t (60 - c) ((0 : Nat) : Int) = 60 - c - meas 0 t) := by
      intro t c hc h60
      rw [nodes_eq, if_pos (by omega)]
      simp only [meas]
      omega
    refine ⟨h1, fun l => ?_⟩
    cases l with
    | nil =>
      intro c n hc hn h
      show (60 - c - n < 0 ↔ c + n > 60) ∧ (0 ≤ 60 - c - n → 60 - c - n = 60 - c - n)
      exact ⟨by omega, fun _ => rfl⟩
    | cons a l =>
      intro c n hc hn h
      have e1 : nodes a (60 - c - n) ((0 : Nat) : Int) = -1 := by rw [nodes_eq, if_pos (by omega)]
      have h0 : ¬ (60 - c - n < 0) := by omega
      have h6 : n + 61 > 60 := by omega
      simp only [nodesL, measL, meas, e1, if_neg h0, if_pos h6]
      rw [nodesL_neg _ _ _ (by omega)]
      omega
  | succ f ih =>
    have h1 : ∀ (t : Term) (c : Int), 0 ≤ c → c < 60 → (nodes t (60 - c) ((f + 1 : Nat) : Int) < 0 ↔ c + meas (f + 1) t > 60) ∧ (0 ≤ nodes t (60 - c) ((f + 1 : Nat) : Int) → nodes t (60 - c) ((f + 1 : Nat) : Int) = 60 - c - meas (f + 1) t) := by
      intro t c hc h60
      rw [nodes_eq, if_neg (by omega)]
      have := ih.2 t.args c 1 hc (by omega) (by omega)
      have e : ((f + 1 : Nat) : Int) - 1 = (f : Nat) := by omega
      rw [e]
      simp only [meas]
      exact this
    refine ⟨h1, fun l => ?_⟩
    induction l with
    | nil =>
      intro c n hc hn h
      show (60 - c - n < 0 ↔ c + n > 60) ∧ (0 ≤ 60 - c - n → 60 - c - n = 60 - c - n)
      exact ⟨by omega, fun _ => rfl⟩
    | cons a l ihl =>
      intro c n hc hn h
      simp only [nodesL, measL]
      rw [if_neg (by omega)]
      have hm := (meas_bd (f + 1) a).1
      by_cases hb : c + n = 60
      · have e0 : 60 - c - n = 0 := by omega
        have hn : nodes a (60 - c - n) ((f + 1 : Nat) : Int) < 0 := by
          have := (nodes_bd a (60 - c - n) ((f + 1 : Nat) : Int) (by omega))
          rw [nodes_eq, if_neg (by omega), nodesL_neg _ _ _ (by omega)]; omega
        rw [nodesL_neg _ _ _ hn]
        split
        · have := (nodes_bd a (60 - c - n) ((f + 1 : Nat) : Int) (by omega)).1; omega
        · have := measL_ge (m := meas (f + 1)) (fun a => (meas_bd (f + 1) a).1) l (n + meas (f + 1) a)
          have := (nodes_bd a (60 - c - n) ((f + 1 : Nat) : Int) (by omega)).1
          omega
      · obtain ⟨g1, g2⟩ := h1 a (c + n) (by omega) (by omega)
        have e1 : 60 - (c + n) = 60 - c - n := by omega
        rw [e1] at g1 g2
        by_cases hneg : nodes a (60 - c - n) ((f + 1 : Nat) : Int) < 0
        · rw [nodesL_neg _ _ _ hneg]
          have := g1.1 hneg
          split
          · omega
          · have := measL_ge (m := meas (f + 1)) (fun a => (meas_bd (f + 1) a).1) l (n + meas (f + 1) a)
            omega
        · have e2 := g2 (by omega)
          rw [e2]
          have hnb : ¬ (c + n + meas (f + 1) a > 60) := fun h => hneg (g1.2 h)
          rw [if_neg (by omega)]
          have := ihl c (n + meas (f + 1) a) hc (by omega) (by omega)
          have e3 : 60 - c - (n + meas (f + 1) a) = 60 - (c + n) - meas (f + 1) a := by omega
          rw [e3] at this
          have e4 : 60 - c - n - meas (f + 1) a = 60 - (c + n) - meas (f + 1) a := by omega
          rw [e4]; exact this

theorem meas_check (t : Term) : meas 8 t > 60 ↔ nodes t 60 8 < 0 := by
  have := ((meas_nodes 8).1 t 0 (by omega) (by omega)).1
  simp only [Int.sub_zero, Int.zero_add] at this
  exact this.symm

/-- few nodes: few arguments -/
theorem nodesL_len : ∀ (l : List Term) (k lv : Int), 0 ≤ nodesL l k lv → (l.length : Int) ≤ k
  | [], k, lv, h => by simpa [nodesL] using h
  | t :: l, k, lv, h => by
    simp only [nodesL] at h
    split at h
    · omega
    · have h1 := nodesL_len l _ lv h
      have h2 : nodes t k lv ≤ k - 1 := by
        rw [nodes_eq]
        split
        · omega
        · have := (nodesL_bd t.args (k - 1) (lv - 1) (by omega)).2; omega
      simp only [List.length_cons]
      omega
theorem nodesL_mem : ∀ (l : List Term) (k lv : Int), 0 ≤ nodesL l k lv → ∀ a ∈ l, ∃ k', k' ≤ k ∧ 0 ≤ nodes a k' lv
  | [], _, _, _, a, h => by simp at h
  | t :: l, k, lv, h, a, ha => by
    simp only [nodesL] at h
    split at h
    · omega
    · rcases List.mem_cons.1 ha with rfl | ha
      · refine ⟨k, Int.le_refl _, ?_⟩
        by_cases hn : nodes a k lv < 0
        · rw [nodesL_neg _ _ _ hn] at h; omega
        · omega
      · obtain ⟨k', h1, h2⟩ := nodesL_mem l _ lv h a ha
        have := (nodes_bd t k lv (by omega)).2
        exact ⟨k', by omega, h2⟩
theorem narrow_of : ∀ (f : Nat) (t : Term) (k : Int), k ≤ 1000 → 0 ≤ nodes t k f → Narrow f t
  | 0, t, k, _, h => by rw [nodes_eq] at h; simp at h
  | f + 1, t, k, hk, h => by
    rw [nodes_eq, if_neg (by omega)] at h
    have e : ((f + 1 : Nat) : Int) - 1 = (f : Nat) := by omega
    rw [e] at h
    have := nodesL_len _ _ _ h
    refine ⟨by omega, fun a ha => ?_⟩
    obtain ⟨k', h1, h2⟩ := nodesL_mem _ _ _ h a ha
    exact narrow_of f a k' (by omega) h2

/-! ### Variables -/
mutual
def used : Term → Int → Bool
  | .mk o n a, v => if o = 2 then decide (n = v) else usedL a v
def usedL : List Term → Int → Bool
  | [], _ => false
  | t :: l, v => if used t v = true then true else usedL l v
end
theorem used_eq (t : Term) (v : Int) : used t v = if t.op = 2 then decide (t.n = v) else usedL t.args v := by cases t; simp only [used, Term.op, Term.n, Term.args]; rfl
theorem usedL_drop {l : List Term} {i : Nat} (h : i < l.length) (v : Int) : usedL (l.drop i) v = if used l[i] v = true then true else usedL (l.drop (i + 1)) v := by
  rw [List.drop_eq_getElem_cons h, usedL]
mutual
def coll : Term → List Int → List Int
  | .mk o n a, acc => collL a (if o = 2 then acc ++ [n] else acc)
def collL : List Term → List Int → List Int
  | [], acc => acc
  | t :: l, acc => collL l (coll t acc)
end
theorem coll_eq (t : Term) (acc : List Int) : coll t acc = collL t.args (if t.op = 2 then acc ++ [t.n] else acc) := by cases t; simp only [coll, Term.op, Term.n, Term.args]; rfl
theorem collL_drop {l : List Term} {i : Nat} (h : i < l.length) (acc : List Int) : collL (l.drop i) acc = collL (l.drop (i + 1)) (coll l[i] acc) := by
  rw [List.drop_eq_getElem_cons h, collL]
def upto (n : Nat) : List Int := (List.range n).map fun (i : Nat) => (i : Int)
def varsT (t : Term) : List Int := if (checkT t).2 ≠ 0 then [] else (upto 20).filter (used t)

/-! ### Values -/
def valueC (v : Int) (cells : List Cell) : Cell :=
  if v < 0 ∨ v ≥ cells.length then ⟨false, 0⟩
  else if (cells.getD v.toNat ⟨false, 0⟩).known = false then ⟨false, 0⟩
  else if (varType v).getD 0 = 0 then ⟨true, cut (cells.getD v.toNat ⟨false, 0⟩).n⟩
  else if (cells.getD v.toNat ⟨false, 0⟩).n ≠ 0 then ⟨true, 1⟩ else ⟨true, 0⟩
def yes (b : Bool) : Cell := if b then ⟨true, 1⟩ else ⟨true, 0⟩
def logic (a b : Cell) (alone : Int) : Cell :=
  if a.known = true ∧ a.n = alone ∨ b.known = true ∧ b.n = alone then ⟨true, alone⟩
  else if a.known = true ∧ b.known = true then ⟨true, 1 - alone⟩ else ⟨false, 0⟩
def times (a b : Int) : Int := cut (a * b)
def number (op a b : Int) : Cell :=
  if op = 7 then yes (decide (a < b)) else if op = 8 then yes (decide (a = b)) else if op = 9 then ⟨true, cut (a + b)⟩ else if op = 10 then ⟨true, cut (a - b)⟩
  else if op = 11 then ⟨true, times a b⟩ else if op = 12 then ⟨true, min a b⟩ else ⟨true, max a b⟩
def evalN (op : Int) (l : List Cell) : Cell :=
  if op = 3 then (if (l.getD 0 ⟨false, 0⟩).known = false then ⟨false, 0⟩ else ⟨true, 1 - (l.getD 0 ⟨false, 0⟩).n⟩)
  else if op = 4 then logic (l.getD 0 ⟨false, 0⟩) (l.getD 1 ⟨false, 0⟩) 0
  else if op = 5 then logic (l.getD 0 ⟨false, 0⟩) (l.getD 1 ⟨false, 0⟩) 1
  else if op = 6 then
    (if (l.getD 0 ⟨false, 0⟩).known = true then l.getD (2 - (l.getD 0 ⟨false, 0⟩).n).toNat ⟨false, 0⟩
     else if (l.getD 1 ⟨false, 0⟩).known = true ∧ (l.getD 2 ⟨false, 0⟩).known = true ∧ (l.getD 1 ⟨false, 0⟩).n = (l.getD 2 ⟨false, 0⟩).n then l.getD 1 ⟨false, 0⟩ else ⟨false, 0⟩)
  else if (l.getD 0 ⟨false, 0⟩).known = false ∨ (l.getD 1 ⟨false, 0⟩).known = false then ⟨false, 0⟩
  else number op (l.getD 0 ⟨false, 0⟩).n (l.getD 1 ⟨false, 0⟩).n
mutual
def eval : Term → List Cell → Cell
  | .mk o n a, cells => if o = 0 ∨ o = 1 then ⟨true, n⟩ else if o = 2 then valueC n cells else evalN o (evalL a cells)
def evalL : List Term → List Cell → List Cell
  | [], _ => []
  | t :: l, cells => eval t cells :: evalL l cells
end
theorem evalL_map (cells : List Cell) : ∀ l, evalL l cells = l.map fun t => eval t cells
  | [] => rfl
  | t :: l => by simp [evalL, evalL_map cells l]
theorem eval_eq (t : Term) (cells : List Cell) : eval t cells = if t.op = 0 ∨ t.op = 1 then ⟨true, t.n⟩ else if t.op = 2 then valueC t.n cells else evalN t.op (t.args.map fun a => eval a cells) := by
  cases t; simp only [eval, evalL_map, Term.op, Term.n, Term.args]; rfl
def evalT (t : Term) (cells : List Cell) : Cell := if (checkT t).2 ≠ 0 then ⟨false, 0⟩ else eval t cells
end Go.Abs

/- Types of terms: 0 or 1; the two ways of typing a node agree. -/
namespace Go.Abs

theorem chkA_ok : ∀ (l : List Term) (ty : List Int), (chkA l ty).1 = 0 → (∀ a ∈ l, (chk a).2 = 0) ∧ (chkA l ty).2 = ty ++ l.map fun a => (chk a).1
  | [], ty, _ => by simp [chkA]
  | t :: l, ty, h => by
    simp only [chkA] at h ⊢
    split at h
    · rename_i hne; exact absurd h hne
    · rename_i he
      rw [if_neg he]
      obtain ⟨h1, h2⟩ := chkA_ok l _ h
      refine ⟨?_, by rw [h2]; simp⟩
      intro a ha
      rcases List.mem_cons.1 ha with rfl | ha
      · simpa using he
      · exact h1 a ha
theorem chkA_all (l : List Term) (h : ∀ a ∈ l, (chk a).2 = 0) : ∀ ty, chkA l ty = (0, ty ++ l.map fun a => (chk a).1) := by
  induction l with
  | nil => intro ty; simp [chkA]
  | cons t l ih =>
    intro ty
    rw [chkA, if_neg (by simp [h t (by simp)]), ih (fun a ha => h a (by simp [ha]))]
    simp
/-- a term without an error -/
theorem chk_ok {t : Term} (h : (chk t).2 = 0) : (∀ a ∈ t.args, (chk a).2 = 0) ∧ chk t = node t (t.args.map fun a => (chk a).1) := by
  rw [chk_eq] at h
  by_cases h0 : (chkA t.args []).1 = 0
  · obtain ⟨h1, h2⟩ := chkA_ok _ _ h0
    refine ⟨h1, ?_⟩
    rw [chk_eq, if_neg (by simp [h0]), h2]; simp
  · rw [if_pos h0] at h; exact absurd h h0

theorem leaf_ty (t : Term) : (leaf t).1 = 0 ∨ (leaf t).1 = 1 := by
  unfold leaf
  split
  · simp
  split
  · split <;> simp
  split
  · split <;> simp
  · cases h : varType t.n with
    | none => simp
    | some k => unfold varType at h; split at h <;> (try split at h) <;> simp_all
theorem varType_ty {v k : Int} (h : varType v = some k) : k = 0 ∨ k = 1 := by unfold varType at h; split at h <;> (try split at h) <;> simp_all

theorem shape_len {op : Int} (h : 3 ≤ op) : ((shapeArgs op).length : Int) = if op = 3 then 1 else if op = 6 then 3 else 2 := by
  unfold shapeArgs
  (repeat' split) <;> simp_all <;> omega

theorem node_ty {t : Term} {tys : List Int} (h : ∀ x ∈ tys, x = 0 ∨ x = 1) : (node t tys).1 = 0 ∨ (node t tys).1 = 1 := by
  unfold node
  split
  · simp
  split
  · exact leaf_ty t
  split
  · simp
  rename_i h1 h2 h3
  have hl : tys.length = (shapeArgs t.op).length := by
    by_cases hh : tys.length = (shapeArgs t.op).length
    · exact hh
    · exact absurd (Or.inl hh) h3
  split
  · simp
  · rename_i c hc
    split
    · rename_i hr
      have h6 : t.op = 6 := by
        unfold shapeRes at hr
        by_cases c6 : t.op = 6
        · exact c6
        · exfalso
          rw [if_neg c6] at hr
          (repeat' split at hr) <;> simp at hr
      rw [h6] at hl hc
      have h3 : tys.length = 3 := by rw [hl]; rfl
      match tys, h3 with
      | [a, b, d], _ =>
        have hb := h b (by simp)
        have ha := h a (by simp)
        have hd := h d (by simp)
        have e : shapeArgs 6 = [1, -1, -1] := rfl
        rw [e] at hc
        show c = 0 ∨ c = 1
        rcases ha with rfl | rfl <;> rcases hb with rfl | rfl <;> rcases hd with rfl | rfl <;> simp [fit] at hc <;> omega
    · rename_i hr
      show shapeRes t.op = 0 ∨ shapeRes t.op = 1
      unfold shapeRes at hr ⊢
      (repeat' split at hr) <;> (repeat' split) <;> first | omega | (exfalso; exact hr rfl)
theorem chk_ty : ∀ t : Term, (chk t).1 = 0 ∨ (chk t).1 = 1 := by
  refine Term.ind fun o n a ih => ?_
  rw [chk_eq]
  split
  · simp
  · rename_i h0
    have h0 : (chkA a []).1 = 0 := by simpa [Term.args] using h0
    obtain ⟨h1, h2⟩ := chkA_ok a [] h0
    show (node _ (chkA a []).2).1 = 0 ∨ (node _ (chkA a []).2).1 = 1
    rw [h2]
    refine node_ty ?_
    intro x hx
    simp at hx
    obtain ⟨b, hb, rfl⟩ := hx
    exact ih b hb
end Go.Abs

/- Orders: what check does, as plain functions. -/
namespace Go.Abs
def qtype (q : Int) : Int := if q = 6 ∨ q = 7 ∨ q = 10 ∨ q = 12 ∨ q = 13 ∨ q = 14 ∨ q = 15 ∨ q = 16 ∨ q = 20 ∨ q = 21 then 0 else 1
def typeQ (q : Int) : V := if q < 0 ∨ q ≥ 22 then .tup [.int .i64 0, .bool false] else .tup [.int .i64 (qtype q), .bool true]
def chs : List Choice → Int → Bool
  | [], _ => true
  | c :: l, last => if ¬ (last < c.ask ∧ c.ask < 22) ∨ c.by_ < 0 ∨ c.by_ ≥ 5 then false else chs l c.ask
def rls : List Rule → Int → Bool
  | [], _ => true
  | c :: l, last => if ¬ (last < c.ask ∧ c.ask < 22) then false else rls l c.ask
def tys : List Rule → Int
  | [] => 0
  | r :: l => if (checkT r.term).2 ≠ 0 then (checkT r.term).2 else if (checkT r.term).1 ≠ qtype r.ask then 11 else tys l
def checkO (o : Order) : Int := if chs o.choices (-1) = false then 1 else if rls o.rules (-1) = false then 1 else tys o.rules
def ordersO : List Order → Int → Int × Int
  | [], _ => (-1, 0)
  | o :: l, i => if checkO o ≠ 0 then (i, checkO o) else ordersO l (i + 1)
def fewR : List Rule → Bool
  | [] => true
  | r :: l => if few r.term = false then false else fewR l
def fewO (o : Order) : Bool := if o.choices.length > 60 ∨ o.rules.length > 60 then false else fewR o.rules
theorem chs_drop {l : List Choice} {i : Nat} (h : i < l.length) (last : Int) : chs (l.drop i) last = if ¬ (last < l[i].ask ∧ l[i].ask < 22) ∨ l[i].by_ < 0 ∨ l[i].by_ ≥ 5 then false else chs (l.drop (i + 1)) l[i].ask := by
  rw [List.drop_eq_getElem_cons h, chs]
theorem rls_drop {l : List Rule} {i : Nat} (h : i < l.length) (last : Int) : rls (l.drop i) last = if ¬ (last < l[i].ask ∧ l[i].ask < 22) then false else rls (l.drop (i + 1)) l[i].ask := by
  rw [List.drop_eq_getElem_cons h, rls]
theorem tys_drop {l : List Rule} {i : Nat} (h : i < l.length) : tys (l.drop i) = if (checkT l[i].term).2 ≠ 0 then (checkT l[i].term).2 else if (checkT l[i].term).1 ≠ qtype l[i].ask then 11 else tys (l.drop (i + 1)) := by
  rw [List.drop_eq_getElem_cons h, tys]
theorem ordersO_drop {l : List Order} {i : Nat} (h : i < l.length) (n : Int) : ordersO (l.drop i) n = if checkO l[i] ≠ 0 then (n, checkO l[i]) else ordersO (l.drop (i + 1)) (n + 1) := by
  rw [List.drop_eq_getElem_cons h, ordersO]
theorem fewR_drop {l : List Rule} {i : Nat} (h : i < l.length) : fewR (l.drop i) = if few l[i].term = false then false else fewR (l.drop (i + 1)) := by
  rw [List.drop_eq_getElem_cons h, fewR]
/-- index of the first rule for a question -/
def rix : List Rule → Int → Int → Int
  | [], _, _ => -1
  | r :: l, q, i => if r.ask = q then i else rix l q (i + 1)
theorem rix_drop {l : List Rule} {i : Nat} (h : i < l.length) (q n : Int) : rix (l.drop i) q n = if l[i].ask = q then n else rix (l.drop (i + 1)) q (n + 1) := by
  rw [List.drop_eq_getElem_cons h, rix]
def hasR (l : List Rule) (q : Int) : Bool := l.any fun r => decide (r.ask = q)
theorem rix_neg : ∀ (l : List Rule) (q i : Int), 0 ≤ i → (rix l q i < 0 ↔ hasR l q = false) ∧ (0 ≤ rix l q i ↔ hasR l q = true)
  | [], q, i, h => by simp [rix, hasR]
  | r :: l, q, i, h => by
    have := rix_neg l q (i + 1) (by omega)
    simp only [rix, hasR, List.any_cons] at this ⊢
    split
    · rename_i hr; simp [hr]; omega
    · rename_i hr; simpa [hr] using this
def hasI (l : List Int) (v : Int) : Bool := l.any fun x => decide (x = v)
theorem hasI_drop {l : List Int} {i : Nat} (h : i < l.length) (v : Int) : hasI (l.drop i) v = if l[i] = v then true else hasI (l.drop (i + 1)) v := by
  rw [List.drop_eq_getElem_cons h]
  simp only [hasI, List.any_cons]
  by_cases e : l[i] = v <;> simp [e]
/-- index of the first number for which p holds -/
def ixP (p : Int → Bool) : List Int → Int → Int
  | [], _ => -1
  | x :: l, i => if p x = true then i else ixP p l (i + 1)
theorem ixP_drop {p : Int → Bool} {l : List Int} {i : Nat} (h : i < l.length) (n : Int) : ixP p (l.drop i) n = if p l[i] = true then n else ixP p (l.drop (i + 1)) (n + 1) := by
  rw [List.drop_eq_getElem_cons h, ixP]
theorem ixP_any (p : Int → Bool) : ∀ (l : List Int) (i : Int), 0 ≤ i → (0 ≤ ixP p l i ↔ l.any p = true)
  | [], i, h => by simp [ixP]
  | x :: l, i, h => by
    have := ixP_any p l (i + 1) (by omega)
    simp only [ixP, List.any_cons]
    split
    · rename_i hr; simp [hr]; omega
    · rename_i hr; simpa [hr] using this
def gapsO (o : Order) : List Int := (upto 22).filter fun q => !(hasR o.rules q)
end Go.Abs

set_option maxRecDepth 100000
namespace Go.Abs
open Go.Proofs

theorem s45 (a b : Int) : Spec Try.prog 45 [.int .i64 a, .int .i64 b] (fun r => r = .bool (decide (a < b ∧ b < 22))) := by
  refine Spec.of_awl hf45 okf45 (by simp) ?_
  simp only []
  refine ⟨fun h => ?_, fun h => ?_⟩
  · have : a < b := h
    simp [this]
  · have : ¬ a < b := h
    simp [this]

theorem s93 (a : Int) : Spec Try.prog 93 [.int .i64 a] (fun r => r = .int .i64 (cut a)) := by
  refine Spec.of_awl hf93 okf93 (by simp) ?_
  simp only []
  congr 3
  unfold cut
  split <;> split <;> omega

theorem s33 (a : Int) : Spec Try.prog 33 [.int .i64 a] (fun r => r = varTypeV a) := by
  refine Spec.of_awl hf33 okf33 (by simp) ?_
  simp only []
  repeat' (first | with_reducible refine And.intro ?_ ?_ | with_reducible intro _)
  all_goals (simp only [varTypeV, varType]; (repeat' split) <;> simp_all <;> omega)

theorem s71 (t : Term) : Spec Try.prog 71 [.agg (encT t)] (fun r => r = pairV (leaf t)) := by
  refine Spec.of_awl hf71 okf71 (by simp) ?_
  simp only [encT_eq, lstC, map_len]
  repeat' (first | with_reducible refine And.intro ?_ ?_ | with_reducible intro _)
  all_goals first
    | (refine callQ_scalar (s93 t.n) rfl rfl rfl ?_
       simp only []
       repeat' (first | with_reducible refine And.intro ?_ ?_ | with_reducible intro _)
       all_goals simp_all [leaf, pairV]
       done)
    | (refine call_scalar (s33 t.n) rfl rfl rfl ?_
       simp only [varTypeV, condB_iff]
       cases hv : varType t.n <;> simp_all [leaf, pairV]
       done)
    | (simp_all [leaf, pairV]; done)
    | (simp_all [leaf, pairV]; rw [if_neg (by omega)]; simp; done)
    | (simp_all [leaf, pairV]; rw [if_pos (by omega)]; simp; done)

/-! ### the reference's small functions -/
theorem s34 (a : Int) : Spec Try.prog 34 [.int .i64 a] (fun r => r = varTypeV a) := by
  refine Spec.of_awl hf34 okf34 (by simp) ?_
  simp only []
  repeat' (first | with_reducible refine And.intro ?_ ?_ | with_reducible intro _)
  all_goals (simp only [varTypeV, varType]; (repeat' split) <;> simp_all <;> omega)
theorem s73 (a : Int) : Spec Try.prog 73 [.int .i64 a] (fun r => r = .int .i64 (arity a)) := by
  refine Spec.of_awl hf73 okf73 (by simp) ?_
  simp only []
  repeat' (first | with_reducible refine And.intro ?_ ?_ | with_reducible intro _)
  all_goals (simp only [arity]; (repeat' split) <;> simp_all)
theorem s74 (t : Term) (h0 : t.args = []) (h1 : 0 ≤ t.op) (h2 : t.op ≤ 2) : Spec Try.prog 74 [.agg (encT t)] (fun r => r = pairV (leaf t)) := by
  refine Spec.of_awl hf74 okf74 (by simp) ?_
  simp only [encT_eq, lstC, map_len]
  repeat' (first | with_reducible refine And.intro ?_ ?_ | with_reducible intro _)
  all_goals first
    | (refine call_scalar (s34 t.n) rfl rfl rfl ?_
       simp only [varTypeV, condB_iff]
       cases hv : varType t.n <;> simp_all [leaf, pairV]
       done)
    | (simp_all [leaf, pairV, cut_eq]; done)
    | (simp_all [leaf, pairV, cut_eq]; rw [if_neg (by omega)]; simp; done)
    | (simp_all [leaf, pairV, cut_eq]; rw [if_pos (by omega)]; simp; done)
    | (exfalso; omega)
end Go.Abs

set_option maxRecDepth 100000
namespace Go.Abs
open Go.Proofs

theorem s58 : ∀ (lv : Nat) (t : Term) (k : Int), 0 ≤ k → k ≤ 1000000 → lv ≤ 1000000 → Spec Try.prog 58 [.agg (encT t), .int .i64 k, .int .i64 lv] (fun r => r = .int .i64 (nodes t k lv)) := by
  intro lv
  induction lv with
  | zero =>
    intro t k h1 h2 h3
    refine Spec.of_awl hf58 okf58 (by simp) ?_
    have hw : IntKind.i64.wrap (k - 1) = k - 1 := wrap_in (by omega) (by omega)
    have hl : ((0 : Nat) : Int) < 1 := by omega
    simp only [encT_eq, lstC, map_len, hw, hl, not_true_eq_false]
    rw [nodes_eq]
    simp
  | succ lv ih =>
    intro t k h1 h2 h3
    refine Spec.of_len hf58 fun hlen => ?_
    replace hlen : t.args.length ≤ 9223372036854775807 := by
      have := hlen (.agg (encT t)) (by simp) (lstC 3 (t.args.map encT)) (by rw [encT_eq]; simp [V.topC]) _ _ _ rfl
      simpa using this
    refine Spec.of_awl hf58 okf58 (by simp) ?_
    have hw : IntKind.i64.wrap (k - 1) = k - 1 := wrap_in (by omega) (by omega)
    have hl : ¬ ((lv + 1 : Nat) : Int) < 1 := by omega
    simp only [encT_eq, lstC, map_len, hw, hl, not_true_eq_false, not_false_eq_true]
    rw [uf58l11]
    refine awl_loop (fun x : Nat × Int => [(1, .int .i64 x.2), (2, .int .i64 ((lv + 1 : Nat) : Int)), (3, .k (.ptr 3 0)), (7, .int .i64 x.1)]) (fun _ => [(3, .var 41 ((encT t).map .c))])
      (fun x => x.1 ≤ t.args.length ∧ -1 ≤ x.2 ∧ x.2 ≤ 1000000 ∧ nodesL (t.args.drop x.1) x.2 lv = nodesL t.args (k - 1) lv) (fun x => t.args.length - x.1) (0, k - 1) rfl (by rw [encT_eq]; rfl) ⟨Nat.zero_le _, by simp only []; omega, by simp only []; omega, rfl⟩ ?_
    rintro ⟨i, n⟩ ⟨hi, hn1, hn2, hj⟩
    simp only [] at hi hn1 hn2 hj
    have hfin : nodes t k ((lv + 1 : Nat) : Int) = nodesL t.args (k - 1) lv := by
      rw [nodes_eq, if_neg hl]
      congr 1; omega
    by_cases hlt : i < t.args.length
    · have c1 : (i : Int) < t.args.length := by omega
      have c3 : IntKind.i64.wrap (((lv + 1 : Nat) : Int) - 1) = (lv : Int) := by rw [wrap_in (by omega) (by omega)]; omega
      have c4 : IntKind.i64.wrap ((i : Int) + 1) = (i : Int) + 1 := wrap_in (by omega) (by omega)
      simp only [encT_eq t, lstC, map_len, map_isEmpty, sz_of hlt, map_at hlt, encT_len, c1, c3, not_true_eq_false]
      refine ⟨fun h5 => ?_, fun h5 => ?_⟩
      · have hb := nodes_bd t.args[i] n lv (by omega)
        refine call_scalar (ih t.args[i] n (by omega) (by omega) (by omega)) rfl (by simp [lendL, V.norm, C.norm, encT_norm]) rfl ?_
        simp only [c4]
        refine Next.intro (i + 1, nodes t.args[i] n lv) rfl rfl ⟨by simp only []; omega, by simp only []; omega, by simp only []; omega, ?_⟩ (by simp only []; omega)
        rw [← hj, nodesL_drop hlt, if_neg (by omega)]
      · rw [hfin, ← hj, nodesL_neg _ _ _ (by omega)]
    · have c1 : ¬ (i : Int) < t.args.length := by omega
      simp only [encT_eq, lstC, map_len, c1, not_true_eq_false, not_false_eq_true]
      rw [hfin, ← hj, List.drop_eq_nil_of_le (by omega), nodesL]
end Go.Abs

set_option maxRecDepth 100000
namespace Go.Abs
open Go.Proofs
theorem s59 : ∀ (f : Nat) (t : Term), f ≤ 8 → Spec Try.prog 59 [.agg (encT t), .int .i64 (9 - (f : Int))] (fun r => r = .int .i64 (meas f t)) := by
  intro f
  induction f with
  | zero =>
    intro t hf
    refine Spec.of_awl hf59 okf59 (by simp) ?_
    have c1 : (9 : Int) - ((0 : Nat) : Int) > 8 := by omega
    simp only [encT_eq, lstC, map_len, c1, not_true_eq_false]
    rfl
  | succ f ih =>
    intro t hf
    refine Spec.of_len hf59 fun hlen => ?_
    replace hlen : t.args.length ≤ 9223372036854775807 := by
      have := hlen (.agg (encT t)) (by simp) (lstC 3 (t.args.map encT)) (by rw [encT_eq]; simp [V.topC]) _ _ _ rfl
      simpa using this
    refine Spec.of_awl hf59 okf59 (by simp) ?_
    have hl : ¬ ((9 : Int) - ((f + 1 : Nat) : Int)) > 8 := by omega
    simp only [encT_eq, lstC, map_len, hl, not_true_eq_false, not_false_eq_true]
    rw [uf59l17]
    refine awl_loop (fun x : Nat × Int => [(1, .int .i64 (9 - ((f + 1 : Nat) : Int))), (5, .int .i64 x.2), (11, .k (.c (.list (if (List.map encT t.args).isEmpty = true then 0 else 3) none (List.map encT t.args)))), (12, .int .i64 (t.args.length : Int)), (13, .int .i64 x.1)]) (fun _ => [])
      (fun x => x.1 ≤ t.args.length ∧ 1 ≤ x.2 ∧ x.2 ≤ 60 ∧ measL (meas f) (t.args.drop x.1) x.2 = measL (meas f) t.args 1) (fun x => t.args.length - x.1) (0, 1) rfl rfl ⟨Nat.zero_le _, by simp only []; omega, by simp only []; omega, rfl⟩ ?_
    rintro ⟨i, n⟩ ⟨hi, hn1, hn2, hj⟩
    simp only [] at hi hn1 hn2 hj
    by_cases hlt : i < t.args.length
    · have c1 : (i : Int) < t.args.length := by omega
      have c3 : IntKind.i64.wrap (9 - ((f + 1 : Nat) : Int) + 1) = 9 - (f : Int) := by rw [wrap_in (by omega) (by omega)]; omega
      have c4 : IntKind.i64.wrap ((i : Int) + 1) = (i : Int) + 1 := wrap_in (by omega) (by omega)
      simp only [encT_eq, lstC, map_len, map_isEmpty, sz_of hlt, map_at hlt, c1, c3, not_true_eq_false]
      have hb := meas_bd f t.args[i]
      have c5 : IntKind.i64.wrap (n + meas f t.args[i]) = n + meas f t.args[i] := wrap_in (by omega) (by omega)
      refine call_scalar (ih t.args[i] (by omega)) rfl (by simp [lendL, V.norm, C.norm, ← norm_T, map_isEmpty]) rfl ?_
      simp only [c4, c5]
      refine ⟨fun h6 => ?_, fun h6 => ?_⟩
      · rw [meas, ← hj, measL_drop hlt, if_pos h6]
      · refine Next.intro (i + 1, n + meas f t.args[i]) rfl rfl ⟨by simp only []; omega, by simp only []; omega, by simp only []; omega, ?_⟩ (by simp only []; omega)
        rw [← hj, measL_drop hlt, if_neg h6]
    · have c1 : ¬ (i : Int) < t.args.length := by omega
      simp only [encT_eq, lstC, map_len, c1, not_true_eq_false, not_false_eq_true]
      rw [meas, ← hj, List.drop_eq_nil_of_le (by omega), measL]
end Go.Abs

set_option maxRecDepth 100000
namespace Go.Abs
open Go.Proofs
theorem s72 (op : Int) : Spec Try.prog 72 [.int .i64 op] (fun r => r = shapeV op) := by
  refine Spec.of_awl hf72 okf72 (by simp) ?_
  simp only []
  repeat' (first | apply And.intro | intro _)
  all_goals simp_all [shapeV, shapeArgs, shapeRes, ints]
end Go.Abs

set_option maxRecDepth 100000
set_option maxHeartbeats 4000000
namespace Go.Abs
open Go.Proofs
theorem s60 : ∀ (f : Nat) (t : Term), Narrow f t → Spec Try.prog 60 [.agg (encT t)] (fun r => r = pairV (chk t)) := by
  intro f
  induction f with
  | zero => intro t h; exact h.elim
  | succ f ih =>
    intro t hN
    refine Spec.of_awl hf60 okf60 (by simp) ?_
    have hlen : t.args.length ≤ 1000 := hN.1
    simp only [encT_eq t]
    refine ⟨by omega, by omega, by omega, ?_⟩
    rw [uf60l78]
    refine awl_loop (fun x : Nat × List Int => [(1, .k (.ptr 1 0)), (4, .k (.own 16)), (18, lst 3 (t.args.map encT)), (19, .int .i64 (t.args.length : Int)), (20, .int .i64 x.1)])
      (fun x => [(1, .var 41 [.c (.int .i64 t.op), .c (.int .i64 t.n), .c (lstC 3 (t.args.map encT))]), (16, .arr 3 1 (some false) (ints x.2 ++ List.replicate (t.args.length - x.1) [.int .i64 0]))])
      (fun x => x.1 ≤ t.args.length ∧ x.2.length = x.1 ∧ chkA (t.args.drop x.1) x.2 = chkA t.args []) (fun x => t.args.length - x.1) (0, []) rfl rfl ?_ ?_
    · exact ⟨Nat.zero_le _, rfl, rfl⟩
    rintro ⟨i, ty⟩ ⟨hi, hty, hj⟩
    simp only [] at hi hty hj
    by_cases hlt : i < t.args.length
    · have c1 : (i : Int) < t.args.length := by omega
      have c4 : IntKind.i64.wrap ((i : Int) + 1) = (i : Int) + 1 := wrap_in (by omega) (by omega)
      simp only [map_at hlt, encT_len, c1]
      refine call_s (ih t.args[i] (hN.2 _ (List.getElem_mem hlt))) ?_
      simp only [c4, pairV]
      refine ⟨fun h6 => ?_, fun h6 => ⟨?_, ?_⟩⟩
      · rw [chkA_drop hlt, if_pos h6] at hj
        rw [chk_eq t, ← hj]
        simp [h6]
      · simp [hty]; omega
      · refine Next.intro (i + 1, ty ++ [(chk t.args[i]).1]) rfl ?_ ⟨by simp only []; omega, by simp [hty], ?_⟩ (by simp only []; omega)
        · rw [set_at hty hlt]; rfl
        · rw [chkA_drop hlt, if_neg (by simp [h6])] at hj
          exact hj
    · have c1 : ¬ (i : Int) < t.args.length := by omega
      have hz : t.args.length - i = 0 := by omega
      simp only [c1, hz, List.replicate_zero]
      rw [List.drop_eq_nil_of_le (by omega), chkA] at hj
      have e : chk t = node t ty := by rw [chk_eq t, ← hj]; simp
      rw [e]
      clear ih hj e
      repeat' (first | with_reducible refine And.intro ?_ ?_ | with_reducible intro _)
      any_goals (refine call_s (s71 t) ?_; simp only [pairV])
      all_goals try (simp_all [node, pairV]; done)
      refine call_r (s72 t.op) ?_
      simp only [shapeV]
      refine ⟨fun h1 => ?_, fun h1 => ⟨fun h2 => ?_, fun h2 => ?_⟩⟩
      · have h1' : ty.length ≠ (shapeArgs t.op).length := by omega
        have a1 : ¬ (t.op < 0 ∨ t.op > 13) := by omega
        have a2 : ¬ (t.op = 0 ∨ t.op = 1 ∨ t.op = 2) := by omega
        simp only [node, pairV, if_neg a1, if_neg a2, if_pos (Or.inl h1' : ty.length ≠ (shapeArgs t.op).length ∨ t.n ≠ 0)]
      · have a1 : ¬ (t.op < 0 ∨ t.op > 13) := by omega
        have a2 : ¬ (t.op = 0 ∨ t.op = 1 ∨ t.op = 2) := by omega
        simp only [node, pairV, if_neg a1, if_neg a2, if_pos (Or.inr h2 : ty.length ≠ (shapeArgs t.op).length ∨ t.n ≠ 0)]
      · have hl : ty.length = (shapeArgs t.op).length := by omega
        have hs3 := shape_small t.op
        have hnode : node t ty = match fit (shapeArgs t.op) ty (-1) with
            | none => (0, 11)
            | some c => if shapeRes t.op = -1 then (c, 0) else (shapeRes t.op, 0) := by
          have a1 : ¬ (t.op < 0 ∨ t.op > 13) := by omega
          have a2 : ¬ (t.op = 0 ∨ t.op = 1 ∨ t.op = 2) := by omega
          simp only [node, if_neg a1, if_neg a2, hl, h2, ne_eq, not_true_eq_false, or_self, if_false]
          rfl
        rw [uf60l33]
        refine awl_loop (fun x : Nat × Int => [(4, .k (.own 16)), (9, .k (.ptr 9 0)), (10, .int .i64 x.2), (80, .k (.own 68000)), (81, .int .i64 ((shapeArgs t.op).length : Int)), (82, .int .i64 x.1)])
          (fun _ => [(9, .var 92 [.own 68000, .c (.int .i64 (shapeRes t.op))]), (16, .arr 3 1 (some false) (ints ty)), (68000, .arr 3 1 none (ints (shapeArgs t.op)))])
          (fun x => x.1 ≤ (shapeArgs t.op).length ∧ fit ((shapeArgs t.op).drop x.1) (ty.drop x.1) x.2 = fit (shapeArgs t.op) ty (-1)) (fun x => (shapeArgs t.op).length - x.1) (0, -1) rfl rfl ⟨Nat.zero_le _, rfl⟩ ?_
        rintro ⟨j, c⟩ ⟨hj1, hj2⟩
        simp only [] at hj1 hj2
        by_cases hlj : j < (shapeArgs t.op).length
        · have d1 : (j : Int) < (shapeArgs t.op).length := by omega
          have hlj2 : j < ty.length := by omega
          have d2 : (j : Int) < ty.length := by omega
          have d4 : IntKind.i64.wrap ((j : Int) + 1) = (j : Int) + 1 := wrap_in (by omega) (by omega)
          rw [fit_drop hlj hlj2] at hj2
          have hfail : ty[j] ≠ (if (shapeArgs t.op)[j] = -1 then (if (shapeArgs t.op)[j] = -1 ∧ c = -1 then ty[j] else c) else (shapeArgs t.op)[j]) → pairV (node t ty) = pairV (0, 11) := by
            intro hne
            rw [if_pos hne] at hj2
            rw [hnode, ← hj2]
          have hgo : ∀ c', c' = (if (shapeArgs t.op)[j] = -1 ∧ c = -1 then ty[j] else c) → ¬ (ty[j] ≠ (if (shapeArgs t.op)[j] = -1 then (if (shapeArgs t.op)[j] = -1 ∧ c = -1 then ty[j] else c) else (shapeArgs t.op)[j])) → fit ((shapeArgs t.op).drop (j + 1)) (ty.drop (j + 1)) c' = fit (shapeArgs t.op) ty (-1) := by
            rintro c' rfl hne
            rw [if_neg hne] at hj2; exact hj2
          clear hj2 hnode
          by_cases hw : (shapeArgs t.op)[j] = -1 <;> by_cases hc : c = -1
          all_goals simp only [hw, hc, true_and, false_and, and_true, and_false, if_true, if_false, not_true_eq_false, not_false_eq_true, ne_eq] at hfail hgo
          · simp only [d1, d2, d4, hw, hc, ints_at hlj, ints_at hlj2]
            exact Next.intro (j + 1, ty[j]) rfl rfl ⟨by simp only []; omega, hgo _ rfl (by simp)⟩ (by simp only []; omega)
          · simp only [d1, d2, d4, hw, hc, ints_at hlj, ints_at hlj2]
            refine ⟨fun h => ?_, fun h => ?_⟩
            · rw [hfail h]; rfl
            · exact Next.intro (j + 1, c) rfl rfl ⟨by simp only []; omega, hgo _ rfl (by simp [h])⟩ (by simp only []; omega)
          · simp only [d1, d2, d4, hw, hc, ints_at hlj, ints_at hlj2]
            refine ⟨fun h => ?_, fun h => ?_⟩
            · rw [hfail h]; rfl
            · exact Next.intro (j + 1, -1) rfl rfl ⟨by simp only []; omega, hgo _ rfl (by simp [h])⟩ (by simp only []; omega)
          · simp only [d1, d2, d4, hw, hc, ints_at hlj, ints_at hlj2]
            refine ⟨fun h => ?_, fun h => ?_⟩
            · rw [hfail h]; rfl
            · exact Next.intro (j + 1, c) rfl rfl ⟨by simp only []; omega, hgo _ rfl (by simp [h])⟩ (by simp only []; omega)
        · have d1 : ¬ (j : Int) < (shapeArgs t.op).length := by omega
          rw [fit_end _ _ _ (List.drop_eq_nil_of_le (by omega))] at hj2
          simp only [d1]
          rw [hnode, ← hj2]
          refine ⟨fun h => ?_, fun h => ?_⟩ <;> simp [pairV, h]
end Go.Abs

set_option maxRecDepth 100000
set_option maxHeartbeats 4000000
namespace Go.Abs
open Go.Proofs

def kindK (op : Int) (l : List Int) : Int := if op = 3 ∨ op = 4 ∨ op = 5 ∨ op = 7 ∨ op = 8 then 1 else if op = 6 then l.getD 1 0 else 0
def kindB (op : Int) (l : List Int) : Bool :=
  if op = 3 then decide (l.getD 0 0 = 1) else if op = 4 ∨ op = 5 then decide (l.getD 0 0 = 1 ∧ l.getD 1 0 = 1) else if op = 6 then decide (l.getD 0 0 = 1 ∧ l.getD 1 0 = l.getD 2 0)
  else if op = 8 then decide (l.getD 0 0 = l.getD 1 0) else decide (l.getD 0 0 = 0 ∧ l.getD 1 0 = 0)
theorem list1 {α : Type} {l : List α} (h : l.length = 1) : ∃ a, l = [a] := by
  match l, h with
  | [a], _ => exact ⟨a, rfl⟩
theorem list2 {α : Type} {l : List α} (h : l.length = 2) : ∃ a b, l = [a, b] := by
  match l, h with
  | [a, b], _ => exact ⟨a, b, rfl⟩
theorem list3 {α : Type} {l : List α} (h : l.length = 3) : ∃ a b c, l = [a, b, c] := by
  match l, h with
  | [a, b, c], _ => exact ⟨a, b, c, rfl⟩
theorem beq_dec (a b : Int) : (a == b) = decide (a = b) := by by_cases h : a = b <;> simp [h]
theorem s75 (op : Int) (l : List Int) (h1 : 3 ≤ op) (hl : (l.length : Int) = arity op) : Spec Try.prog 75 [.int .i64 op, lst 1 (ints l)] (fun r => r = .tup [.int .i64 (kindK op l), .bool (kindB op l)]) := by
  by_cases e3 : op = 3
  · subst e3
    have h2 : l.length = 1 := by simp [arity] at hl; omega
    obtain ⟨a, rfl⟩ := list1 h2
    refine Spec.of_awl hf75 okf75 (by simp) ?_
    simp only [ints, List.map_cons, List.map_nil, List.length_cons, List.length_nil, List.getD_cons_zero, List.getD_cons_succ]
    simp [kindK, kindB, beq_dec]
  by_cases e6 : op = 6
  · subst e6
    have h2 : l.length = 3 := by simp [arity] at hl; omega
    obtain ⟨a, b, c, rfl⟩ := list3 h2
    clear hl h2 e3 h1
    refine Spec.of_awl hf75 okf75 (by simp) ?_
    simp only [ints, List.map_cons, List.map_nil, List.length_cons, List.length_nil, List.getD_cons_zero, List.getD_cons_succ]
    repeat' (first | with_reducible refine And.intro ?_ ?_ | with_reducible intro _)
    all_goals simp_all [kindK, kindB, beq_dec]
  have h2 : l.length = 2 := by rw [arity, if_neg (by omega), if_neg e3, if_neg e6] at hl; omega
  obtain ⟨a, b, rfl⟩ := list2 h2
  clear hl h2
  refine Spec.of_awl hf75 okf75 (by simp) ?_
  simp only [e3, e6, ints, List.map_cons, List.map_nil, List.length_cons, List.length_nil, List.getD_cons_zero, List.getD_cons_succ]
  repeat' (first | with_reducible refine And.intro ?_ ?_ | with_reducible intro _)
  all_goals simp_all [kindK, kindB, beq_dec]
theorem s30 (t : Term) : Spec Try.prog 30 [.agg (encT t)] (fun r => r = .bool (few t)) := by
  refine Spec.of_awl hf30 okf30 (by simp) ?_
  simp only []
  refine call_s (s58 20 t 100 (by omega) (by omega) (by omega)) ?_
  simp only []
  rfl
theorem s31 (t : Term) : Spec Try.prog 31 [.agg (encT t)] (fun r => r = pairV (checkT t)) := by
  refine Spec.of_awl hf31 okf31 (by simp) ?_
  simp only []
  refine call_s (s59 8 t (by omega)) ?_
  have hm := meas_check t
  simp only []
  refine ⟨fun h => ?_, fun h => ?_⟩
  · rw [checkT, if_pos (hm.1 h)]; rfl
  · have h0 : ¬ nodes t 60 8 < 0 := fun h' => h (hm.2 h')
    refine call_s (s60 8 t (narrow_of 8 t 60 (by omega) (by simp; omega))) ?_
    simp only [pairV]
    rw [checkT, if_neg h0]
end Go.Abs

set_option maxRecDepth 100000
set_option maxHeartbeats 4000000
namespace Go.Abs
open Go.Proofs
theorem kind_fit {op : Int} {ty : List Int} (h1 : 3 ≤ op) (h2 : op ≤ 13) (hl : (ty.length : Int) = arity op) (ht : ∀ x ∈ ty, x = 0 ∨ x = 1) :
    (match fit (shapeArgs op) ty (-1) with | none => ((0 : Int), (11 : Int)) | some c => if shapeRes op = -1 then (c, 0) else (shapeRes op, 0)) = if kindB op ty = true then (kindK op ty, 0) else (0, 11) := by
  have hop : op = 3 ∨ op = 4 ∨ op = 5 ∨ op = 6 ∨ op = 7 ∨ op = 8 ∨ op = 9 ∨ op = 10 ∨ op = 11 ∨ op = 12 ∨ op = 13 := by omega
  by_cases e3 : op = 3
  · subst e3
    have hl2 : ty.length = 1 := by simp [arity] at hl; omega
    obtain ⟨a, rfl⟩ := list1 hl2
    rcases ht a (by simp) with rfl | rfl <;> rfl
  by_cases e6 : op = 6
  · subst e6
    have hl2 : ty.length = 3 := by simp [arity] at hl; omega
    obtain ⟨a, b, c, rfl⟩ := list3 hl2
    rcases ht a (by simp) with rfl | rfl <;> rcases ht b (by simp) with rfl | rfl <;> rcases ht c (by simp) with rfl | rfl <;> rfl
  have hl2 : ty.length = 2 := by rw [arity, if_neg (by omega), if_neg e3, if_neg e6] at hl; omega
  obtain ⟨a, b, rfl⟩ := list2 hl2
  rcases hop with rfl | rfl | rfl | rfl | rfl | rfl | rfl | rfl | rfl | rfl | rfl
  all_goals first
    | exact absurd rfl e3
    | exact absurd rfl e6
    | (rcases ht a (by simp) with rfl | rfl <;> rcases ht b (by simp) with rfl | rfl <;> rfl)
theorem arity_shape {op : Int} (h : 3 ≤ op) : arity op = (shapeArgs op).length := by
  rw [shape_len h, arity, if_neg (by omega)]
theorem node_typed (t : Term) (ty : List Int) (ht : ∀ x ∈ ty, x = 0 ∨ x = 1) (h1 : 0 ≤ t.op) (h2 : t.op ≤ 13) (hl : (ty.length : Int) = arity t.op) (hn : 3 ≤ t.op) (h0 : t.n = 0) :
    node t ty = if kindB t.op ty = true then (kindK t.op ty, 0) else (0, 11) := by
  have hsh := arity_shape hn
  rw [← kind_fit hn h2 hl ht]
  have a1 : ¬ (t.op < 0 ∨ t.op > 13) := by omega
  have a2 : ¬ (t.op = 0 ∨ t.op = 1 ∨ t.op = 2) := by omega
  have a3 : ¬ (ty.length ≠ (shapeArgs t.op).length ∨ t.n ≠ 0) := by omega
  simp only [node, if_neg a1, if_neg a2, if_neg a3]
  rfl
theorem s61 : ∀ (f : Nat) (t : Term), Narrow f t → Spec Try.prog 61 [.agg (encT t)] (fun r => r = pairV (chk t)) := by
  intro f
  induction f with
  | zero => intro t h; exact h.elim
  | succ f ih =>
    intro t hN
    refine Spec.of_awlS hf61 okf61 (by simp) fun S hS => ?_
    have hlen : t.args.length ≤ 1000 := hN.1
    simp only [encT_eq t]
    rw [uf61l47]
    refine awl_loop (fun x : Nat × List Int => [(1, .k (.ptr 1 0)), (4, .k (.own 11)), (5, .int .i64 x.1)])
      (fun x => [(1, .var 41 [.c (.int .i64 t.op), .c (.int .i64 t.n), .c (lstC 3 (t.args.map encT))]), (11, .arr 3 1 (some false) (ints x.2))])
      (fun x => x.1 ≤ t.args.length ∧ x.2.length = x.1 ∧ chkA (t.args.drop x.1) x.2 = chkA t.args [] ∧ (∀ y ∈ x.2, y = 0 ∨ y = 1)) (fun x => t.args.length - x.1) (0, []) rfl rfl ⟨Nat.zero_le _, rfl, rfl, by simp⟩ ?_
    rintro ⟨i, ty⟩ ⟨hi, hty, hj, hb⟩
    simp only [] at hi hty hj hb
    by_cases hlt : i < t.args.length
    · have c1 : (i : Int) < t.args.length := by omega
      have c4 : IntKind.i64.wrap ((i : Int) + 1) = (i : Int) + 1 := wrap_in (by omega) (by omega)
      simp only [map_at hlt, encT_len, c1]
      refine call_s (ih t.args[i] (hN.2 _ (List.getElem_mem hlt))) ?_
      simp only [c4, pairV]
      refine ⟨fun h6 => ?_, fun h6 => ?_⟩
      · rw [chkA_drop hlt, if_pos h6] at hj
        refine fin hS ?_
        rw [chk_eq t, ← hj]
        simp [h6, pairV]
      · refine ⟨by omega, by omega, Next.intro (i + 1, ty ++ [(chk t.args[i]).1]) rfl (by rw [ints_snoc]; rfl) ⟨by simp only []; omega, by simp [hty], ?_, ?_⟩ (by simp only []; omega)⟩
        · rw [chkA_drop hlt, if_neg (by simp [h6])] at hj
          exact hj
        · intro y hy
          rcases List.mem_append.1 hy with hy | hy
          · exact hb y hy
          · simp at hy; rw [hy]; exact chk_ty _
    · have c1 : ¬ (i : Int) < t.args.length := by omega
      simp only [c1]
      rw [List.drop_eq_nil_of_le (by omega), chkA] at hj
      have e : chk t = node t ty := by rw [chk_eq t, ← hj]; simp
      rw [e] at hS
      clear ih hj e
      have hlt2 : ty.length = t.args.length := by omega
      refine ⟨fun h => ?_, fun h1 => ⟨fun h => ?_, fun h2 => ?_⟩⟩
      · exact fin hS (by simp only [node, if_pos (Or.inl h : t.op < 0 ∨ t.op > 13)]; rfl)
      · exact fin hS (by simp only [node, if_pos (Or.inr (by omega) : t.op < 0 ∨ t.op > 13)]; rfl)
      have a1 : ¬ (t.op < 0 ∨ t.op > 13) := by omega
      refine call_s (s73 t.op) ?_
      simp only []
      by_cases hop : t.op = 0 ∨ t.op = 1 ∨ t.op = 2
      · have har : arity t.op = 0 := by rw [arity, if_pos hop]
        have hnode : node t ty = leaf t := by simp only [node, if_neg a1, if_pos hop]
        simp only [har]
        refine ⟨fun h => ?_, fun h => ?_⟩
        · refine fin hS ?_
          rw [hnode, leaf, if_pos (by omega)]; rfl
        · have h0 : t.args = [] := List.eq_nil_of_length_eq_zero (by omega)
          refine call_s (s74 t h0 (by omega) (by omega)) ?_
          simp only [pairV]
          exact fin hS (by rw [hnode]; rfl)
      · have hsh := arity_shape (op := t.op) (by omega)
        have har : arity t.op ≠ 0 := by rw [hsh, shape_len (by omega)]; (repeat' split) <;> simp
        have har2 : arity t.op > 0 := by rw [hsh, shape_len (by omega)]; (repeat' split) <;> simp
        simp only [har, har2]
        refine ⟨fun h => ?_, fun h => ⟨fun h3 => ?_, fun h3 => ?_⟩⟩
        · refine fin hS ?_
          simp only [node, if_neg a1, if_neg hop, if_pos (Or.inl (by omega) : ty.length ≠ (shapeArgs t.op).length ∨ t.n ≠ 0)]; rfl
        · refine fin hS ?_
          simp only [node, if_neg a1, if_neg hop, if_pos (Or.inr h3 : ty.length ≠ (shapeArgs t.op).length ∨ t.n ≠ 0)]; rfl
        · refine call_s (s75 t.op ty (by omega) (by omega)) ?_
          rw [node_typed t ty hb (by omega) (by omega) (by omega) (by omega) h3] at hS
          by_cases hk : kindB t.op ty = true
          · rw [if_pos hk] at hS
            simp only [hk]
            exact fin hS rfl
          · rw [if_neg hk] at hS
            have hk : kindB t.op ty = false := by simpa using hk
            simp only [hk]
            exact fin hS rfl
theorem s32 (t : Term) : Spec Try.prog 32 [.agg (encT t)] (fun r => r = pairV (checkT t)) := by
  refine Spec.of_awlS hf32 okf32 (by simp) fun S hS => ?_
  simp only []
  refine call_s (s58 8 t 60 (by omega) (by omega) (by omega)) ?_
  simp only []
  refine ⟨fun h => ?_, fun h => ?_⟩
  · refine fin hS ?_
    rw [checkT, if_pos h]; rfl
  · refine call_s (s61 8 t (narrow_of 8 t 60 (by omega) (by simp; omega))) ?_
    simp only [pairV]
    refine fin hS ?_
    rw [checkT, if_neg h]; rfl
theorem s63 : ∀ (t : Term) (v : Int), Spec Try.prog 63 [.agg (encT t), .int .i64 v] (fun r => r = .bool (used t v)) := by
  refine Term.ind fun o n a ih v => ?_
  generalize ht : Term.mk o n a = t
  have ha : a = t.args := by rw [← ht]; rfl
  rw [ha] at ih
  clear ht ha o n a
  refine Spec.of_len hf63 fun hlen => ?_
  replace hlen : t.args.length ≤ 9223372036854775807 := by
    have := hlen (.agg (encT t)) (by simp) (lstC 3 (t.args.map encT)) (by rw [encT_eq]; simp [V.topC]) _ _ _ rfl
    simpa using this
  refine Spec.of_awlS hf63 okf63 (by simp) fun S hS => ?_
  rw [used_eq] at hS
  by_cases h2 : t.op = 2
  · rw [if_pos h2] at hS
    simp only [encT_eq t, h2]
    refine fin hS ?_
    by_cases h3 : t.n = v <;> simp [h3]
  · rw [if_neg h2] at hS
    simp only [encT_eq t, h2]
    rw [uf63l17]
    refine awl_loop (fun i : Nat => [(1, .int .i64 v), (2, .k (.ptr 2 0)), (5, .int .i64 i)])
      (fun x => [(2, .var 41 [.c (.int .i64 t.op), .c (.int .i64 t.n), .c (lstC 3 (t.args.map encT))])])
      (fun i => i ≤ t.args.length ∧ usedL (t.args.drop i) v = usedL t.args v) (fun i => t.args.length - i) 0 rfl rfl ⟨Nat.zero_le _, rfl⟩ ?_
    rintro i ⟨hi, hj⟩
    by_cases hlt : i < t.args.length
    · have c1 : (i : Int) < t.args.length := by omega
      have c4 : IntKind.i64.wrap ((i : Int) + 1) = (i : Int) + 1 := wrap_in (by omega) (by omega)
      simp only [map_at hlt, encT_len, c1]
      refine call_s (ih t.args[i] (List.getElem_mem hlt) v) ?_
      rw [usedL_drop hlt] at hj
      cases hu : used t.args[i] v
      · rw [hu, if_neg (by simp)] at hj
        simp only [c4, hu]
        exact Next.intro (i + 1) rfl rfl ⟨by omega, hj⟩ (by omega)
      · rw [hu, if_pos rfl] at hj
        simp only [c4, hu]
        exact fin hS (by rw [← hj])
    · have c1 : ¬ (i : Int) < t.args.length := by omega
      simp only [c1]
      rw [List.drop_eq_nil_of_le (by omega), usedL] at hj
      exact fin hS (by rw [← hj])
end Go.Abs

set_option maxRecDepth 100000
set_option maxHeartbeats 4000000
namespace Go.Abs
open Go.Proofs
def kindsC (f : Nat → Int) : List C := (List.range 22).map fun q => .int .i64 (f q)
theorem kindsC_len (f : Nat → Int) : (kindsC f).length = 22 := by simp [kindsC]
def k1 (i q : Nat) : Int := if q < i then 1 else 0
def k2 (j q : Nat) : Int := if q ∈ [6, 7, 10, 12, 13, 14, 15, 16, 20, 21].take j then 0 else 1
def asks : List Int := [6, 7, 10, 12, 13, 14, 15, 16, 20, 21]
def kindsRow : List C := kindsC fun q => qtype q
abbrev rowZ : List K := (kindsC fun _ => 0).map .c
theorem s44 : Spec Try.prog 44 [] (fun r => r = .agg kindsRow) := by
  refine Spec.of_awlS hf44 okf44 (by simp) fun S hS => ?_
  simp only []
  rw [uf44l28]
  refine awl_loop (fun i : Nat => [(0, .k (.ptr 0 0)), (1, .k (.ptr 1 0)), (5, .int .i64 i)])
    (fun i => [(0, .var 65 rowZ), (1, .var 65 ((kindsC (k1 i)).map .c))]) (fun i => i ≤ 22) (fun i => 22 - i) 0 rfl rfl (Nat.zero_le _) ?_
  intro i hi
  by_cases hlt : i < 22
  · have c1 : (i : Int) < 22 := by omega
    have c4 : IntKind.i64.wrap ((i : Int) + 1) = (i : Int) + 1 := wrap_in (by omega) (by omega)
    have c5 : i + 1 ≤ 22 := by omega
    simp only [c1, c4, c5, kindsC_len, List.length_map]
    refine Next.intro (i + 1) rfl ?_ (by omega) (by omega)
    have h22 : i = 0 ∨ i = 1 ∨ i = 2 ∨ i = 3 ∨ i = 4 ∨ i = 5 ∨ i = 6 ∨ i = 7 ∨ i = 8 ∨ i = 9 ∨ i = 10 ∨ i = 11 ∨ i = 12 ∨ i = 13 ∨ i = 14 ∨ i = 15 ∨ i = 16 ∨ i = 17 ∨ i = 18 ∨ i = 19 ∨ i = 20 ∨ i = 21 := by omega
    rcases h22 with rfl | rfl | rfl | rfl | rfl | rfl | rfl | rfl | rfl | rfl | rfl | rfl | rfl | rfl | rfl | rfl | rfl | rfl | rfl | rfl | rfl | rfl <;> rfl
  · have c1 : ¬ (i : Int) < 22 := by omega
    obtain rfl : i = 22 := by omega
    simp only [c1]
    rw [uf44l13]
    refine awl_loop (fun i : Nat => [(0, .k (.ptr 0 0)), (1, .k (.ptr 1 0)), (11, .k (.own 11)), (12, .int .i64 10), (13, .int .i64 i)])
      (fun i => [(0, .var 65 rowZ), (1, .var 65 ((kindsC (k2 i)).map .c)), (11, .arr 3 1 (some false) (ints asks))]) (fun i => i ≤ 10) (fun i => 10 - i) 0 rfl rfl (Nat.zero_le _) ?_
    intro i hi
    by_cases hlt : i < 10
    · have h10 : i = 0 ∨ i = 1 ∨ i = 2 ∨ i = 3 ∨ i = 4 ∨ i = 5 ∨ i = 6 ∨ i = 7 ∨ i = 8 ∨ i = 9 := by omega
      have c1 : (i : Int) < 10 := by omega
      have c4 : IntKind.i64.wrap ((i : Int) + 1) = (i : Int) + 1 := wrap_in (by omega) (by omega)
      have hla : i < asks.length := by simp [asks]; omega
      have hq : ∀ j (h : j < asks.length), 0 ≤ asks[j] ∧ asks[j] < 22 := by decide
      replace hq := hq i hla
      have h1 := hq.1
      have h2 := hq.2
      have c5 : asks[i].toNat + 1 ≤ 22 := by omega
      have c6 : (i : Int) < asks.length := by simp [asks]; omega
      simp only [c1, c4, c5, c6, h1, h2, ints_at hla, kindsC_len, List.length_map]
      refine Next.intro (i + 1) rfl ?_ (by omega) (by omega)
      rcases h10 with rfl | rfl | rfl | rfl | rfl | rfl | rfl | rfl | rfl | rfl <;> rfl
    · have c1 : ¬ (i : Int) < 10 := by omega
      obtain rfl : i = 10 := by omega
      simp only [c1, kindsC_len, List.length_map, r_ofRow_take (kindsC_len _)]
      refine ⟨by decide, ?_, ?_⟩
      · exact List.nodup_nil
      · exact hS
theorem kinds_at {n : Int} (h1 : 0 ≤ n) (h2 : n < 22) : List.take 1 (List.drop n.toNat (kindsRow.map Abs.K.c)) = [.c (.int .i64 (qtype n))] := by
  obtain ⟨m, rfl⟩ : ∃ m : Nat, n = m := ⟨n.toNat, by omega⟩
  have h22 : m = 0 ∨ m = 1 ∨ m = 2 ∨ m = 3 ∨ m = 4 ∨ m = 5 ∨ m = 6 ∨ m = 7 ∨ m = 8 ∨ m = 9 ∨ m = 10 ∨ m = 11 ∨ m = 12 ∨ m = 13 ∨ m = 14 ∨ m = 15 ∨ m = 16 ∨ m = 17 ∨ m = 18 ∨ m = 19 ∨ m = 20 ∨ m = 21 := by omega
  rcases h22 with rfl | rfl | rfl | rfl | rfl | rfl | rfl | rfl | rfl | rfl | rfl | rfl | rfl | rfl | rfl | rfl | rfl | rfl | rfl | rfl | rfl | rfl <;> rfl
theorem kindsRow_len : kindsRow.length = 22 := kindsC_len _
theorem s16 (q : Int) : Spec Try.prog 16 [.int .i64 q] (fun r => r = typeQ q) := by
  refine Spec.of_awlS hf16 okf16 (by simp) fun S hS => ?_
  by_cases h1 : q < 0
  · simp only [h1]
    exact fin hS (by rw [typeQ, if_pos (.inl h1)])
  by_cases h2 : q ≥ 22
  · simp only [h1, h2]
    exact fin hS (by rw [typeQ, if_pos (.inr h2)])
  rw [typeQ, if_neg (by omega)] at hS
  simp only [h1, h2]
  refine call_r s44 ?_
  have e := kinds_at (n := q) (by omega) (by omega)
  have h3 : 0 ≤ q := by omega
  have h4 : q < 22 := by omega
  rw [← List.map_drop, ← List.map_take] at e
  simp only [h3, h4, kindsRow_len, e]
  exact fin hS rfl
theorem s48 (o : Order) (q : Int) : Spec Try.prog 48 [.agg (encOrder o), .int .i64 q] (fun r => r = .int .i64 (rix o.rules q 0)) := by
  refine Spec.of_len hf48 fun hlen => ?_
  have hl := (len_rules (o := o) List.mem_cons_self hlen).2
  clear hlen
  refine Spec.of_awlS hf48 okf48 (by simp) fun S hS => ?_
  simp only []
  rw [uf48l15]
  refine awl_loop (fun i : Nat => [(1, .int .i64 q), (2, .k (.ptr 2 0)), (5, .int .i64 i)]) (fun _ => [(2, .var 25 ((encOrder o).map .c))])
    (fun i => i ≤ o.rules.length ∧ rix (o.rules.drop i) q i = rix o.rules q 0) (fun i => o.rules.length - i) 0 rfl rfl ⟨Nat.zero_le _, rfl⟩ ?_
  rintro i ⟨hi, hj⟩
  by_cases hlt : i < o.rules.length
  · have c1 : (i : Int) < o.rules.length := by omega
    have c4 : IntKind.i64.wrap ((i : Int) + 1) = (i : Int) + 1 := wrap_in (by omega) (by omega)
    rw [rix_drop hlt] at hj
    simp only [c1, c4, map_at hlt]
    refine ⟨fun h => ?_, fun h => ?_⟩
    · rw [if_pos h] at hj
      exact fin hS (by rw [← hj])
    · rw [if_neg h] at hj
      exact Next.intro (i + 1) rfl rfl ⟨by omega, hj⟩ (by omega)
  · have c1 : ¬ (i : Int) < o.rules.length := by omega
    simp only [c1]
    rw [List.drop_eq_nil_of_le (by omega), rix] at hj
    exact fin hS (by rw [← hj])
theorem has_loop {f : FuncId} (l : List Int) (v : Int) : True := trivial
theorem s51 (l : List Int) (v : Int) : Spec Try.prog 51 [lst 1 (ints l), .int .i64 v] (fun r => r = .bool (hasI l v)) := by
  refine Spec.of_len hf51 fun hlen => ?_
  have hl := len_lst (sz := 1) (rows := ints l) List.mem_cons_self hlen
  rw [ints_len] at hl
  clear hlen
  refine Spec.of_awlS hf51 okf51 (by simp) fun S hS => ?_
  simp only []
  rw [uf51l15]
  refine awl_loop (fun i : Nat => [(0, lst 1 (ints l)), (1, .int .i64 v), (5, .int .i64 i)]) (fun _ => [])
    (fun i => i ≤ l.length ∧ hasI (l.drop i) v = hasI l v) (fun i => l.length - i) 0 rfl rfl ⟨Nat.zero_le _, rfl⟩ ?_
  rintro i ⟨hi, hj⟩
  by_cases hlt : i < l.length
  · have c1 : (i : Int) < l.length := by omega
    have c4 : IntKind.i64.wrap ((i : Int) + 1) = (i : Int) + 1 := wrap_in (by omega) (by omega)
    rw [hasI_drop hlt] at hj
    simp only [c1, c4, ints_at hlt]
    refine ⟨fun h => ?_, fun h => ?_⟩
    · rw [if_pos h] at hj
      exact fin hS (by rw [← hj])
    · rw [if_neg h] at hj
      exact Next.intro (i + 1) rfl rfl ⟨by omega, hj⟩ (by omega)
  · have c1 : ¬ (i : Int) < l.length := by omega
    simp only [c1]
    rw [List.drop_eq_nil_of_le (by omega)] at hj
    exact fin hS (by rw [← hj]; rfl)
theorem s42 (l : List Int) (v : Int) : Spec Try.prog 42 [lst 1 (ints l), .int .i64 v] (fun r => r = .bool (hasI l v)) := by
  refine Spec.of_len hf42 fun hlen => ?_
  have hl := len_lst (sz := 1) (rows := ints l) List.mem_cons_self hlen
  rw [ints_len] at hl
  clear hlen
  refine Spec.of_awlS hf42 okf42 (by simp) fun S hS => ?_
  simp only []
  rw [uf42l15]
  refine awl_loop (fun i : Nat => [(0, lst 1 (ints l)), (1, .int .i64 v), (5, .int .i64 i)]) (fun _ => [])
    (fun i => i ≤ l.length ∧ hasI (l.drop i) v = hasI l v) (fun i => l.length - i) 0 rfl rfl ⟨Nat.zero_le _, rfl⟩ ?_
  rintro i ⟨hi, hj⟩
  by_cases hlt : i < l.length
  · have c1 : (i : Int) < l.length := by omega
    have c4 : IntKind.i64.wrap ((i : Int) + 1) = (i : Int) + 1 := wrap_in (by omega) (by omega)
    rw [hasI_drop hlt] at hj
    simp only [c1, c4, ints_at hlt]
    refine ⟨fun h => ?_, fun h => ?_⟩
    · rw [if_pos h] at hj
      exact fin hS (by rw [← hj])
    · rw [if_neg h] at hj
      exact Next.intro (i + 1) rfl rfl ⟨by omega, hj⟩ (by omega)
  · have c1 : ¬ (i : Int) < l.length := by omega
    simp only [c1]
    rw [List.drop_eq_nil_of_le (by omega)] at hj
    exact fin hS (by rw [← hj]; rfl)
theorem s17 (q : Int) : Spec Try.prog 17 [.int .i64 q] (fun r => r = typeQ q) := by
  refine Spec.of_awlS hf17 okf17 (by simp) fun S hS => ?_
  by_cases h1 : q < 0
  · simp only [h1]
    exact fin hS (by rw [typeQ, if_pos (.inl h1)])
  by_cases h2 : q ≥ 22
  · simp only [h1, h2]
    exact fin hS (by rw [typeQ, if_pos (.inr h2)])
  rw [typeQ, if_neg (by omega)] at hS
  simp only [h1, h2]
  repeat' (first | with_reducible refine And.intro ?_ ?_ | with_reducible intro _)
  all_goals (refine fin hS ?_; simp_all [qtype])
end Go.Abs

set_option maxRecDepth 100000
set_option maxHeartbeats 4000000
namespace Go.Abs
open Go.Proofs
abbrev orV (o : Order) : List K := (encOrder o).map .c
theorem s15 (o : Order) : Spec Try.prog 15 [.agg (encOrder o)] (fun r => r = .bool (fewO o)) := by
  refine Spec.of_len hf15 fun hlen => ?_
  have hl := (len_rules (o := o) List.mem_cons_self hlen).2
  clear hlen
  refine Spec.of_awlS hf15 okf15 (by simp) fun S hS => ?_
  by_cases h1 : (o.choices.length : Int) > 60
  · simp only [h1]
    exact fin hS (by rw [fewO, if_pos (.inl (by omega))])
  by_cases h2 : (o.rules.length : Int) > 60
  · simp only [h1, h2]
    exact fin hS (by rw [fewO, if_pos (.inr (by omega))])
  rw [fewO, if_neg (by omega)] at hS
  simp only [h1, h2]
  rw [uf15l15]
  refine awl_loop (fun i : Nat => [(1, .k (.ptr 1 0)), (3, .int .i64 i)]) (fun _ => [(1, .var 25 (orV o))])
    (fun i => i ≤ o.rules.length ∧ fewR (o.rules.drop i) = fewR o.rules) (fun i => o.rules.length - i) 0 rfl rfl ⟨Nat.zero_le _, rfl⟩ ?_
  rintro i ⟨hi, hj⟩
  by_cases hlt : i < o.rules.length
  · have c1 : (i : Int) < o.rules.length := by omega
    have c4 : IntKind.i64.wrap ((i : Int) + 1) = (i : Int) + 1 := wrap_in (by omega) (by omega)
    rw [fewR_drop hlt] at hj
    simp only [c1, c4, map_at hlt]
    refine call_s (s30 o.rules[i].term) ?_
    cases h : few o.rules[i].term
    · rw [if_pos h] at hj
      simp only [h]
      exact fin hS (by rw [← hj])
    · rw [if_neg (by simp [h])] at hj
      simp only [h, c4]
      exact Next.intro (i + 1) rfl rfl ⟨by omega, hj⟩ (by omega)
  · have c1 : ¬ (i : Int) < o.rules.length := by omega
    simp only [c1]
    rw [List.drop_eq_nil_of_le (by omega), fewR] at hj
    exact fin hS (by rw [← hj])
theorem rls_range : ∀ (l : List Rule) (last : Int), rls l last = true → ∀ r ∈ l, last < r.ask ∧ r.ask < 22
  | [], _, _, r, h => by simp at h
  | a :: l, last, h, r, hr => by
    simp only [rls] at h
    split at h
    · simp at h
    · rename_i hc
      have hc : last < a.ask ∧ a.ask < 22 := by simpa using hc
      rcases List.mem_cons.1 hr with rfl | hr
      · exact hc
      · have := rls_range l a.ask h r hr; omega
theorem s20 (o : Order) : Spec Try.prog 20 [.agg (encOrder o)] (fun r => r = .int .i64 (checkO o)) := by
  refine Spec.of_len hf20 fun hlen => ?_
  have hl := len_rules (o := o) List.mem_cons_self hlen
  clear hlen
  obtain ⟨hl1, hl2⟩ := hl
  refine Spec.of_awlS hf20 okf20 (by simp) fun S hS => ?_
  simp only []
  rw [uf20l71]
  refine awl_loop (fun x : Nat × Int => [(1, .k (.ptr 1 0)), (3, .int .i64 x.2), (14, lst 3 (o.choices.map encChoice)), (15, .int .i64 o.choices.length), (16, .int .i64 x.1)]) (fun _ => [(1, .var 25 (orV o))])
    (fun x => x.1 ≤ o.choices.length ∧ chs (o.choices.drop x.1) x.2 = chs o.choices (-1)) (fun x => o.choices.length - x.1) (0, -1) rfl rfl ⟨Nat.zero_le _, rfl⟩ ?_
  rintro ⟨i, last⟩ ⟨hi, hj⟩
  simp only [] at hi hj
  by_cases hlt : i < o.choices.length
  · have c1 : (i : Int) < o.choices.length := by omega
    have c4 : IntKind.i64.wrap ((i : Int) + 1) = (i : Int) + 1 := wrap_in (by omega) (by omega)
    rw [chs_drop hlt] at hj
    simp only [c1, c4, map_at hlt]
    refine call_s (s45 last o.choices[i].ask) ?_
    have hbad : (¬ (last < o.choices[i].ask ∧ o.choices[i].ask < 22) ∨ o.choices[i].by_ < 0 ∨ o.choices[i].by_ ≥ 5) → S (.k (.c (.int .i64 1))) := by
      intro h
      rw [if_pos h] at hj
      exact fin hS (by rw [checkO, if_pos hj.symm])
    by_cases h1 : last < o.choices[i].ask ∧ o.choices[i].ask < 22
    · simp only [h1, c4, and_self]
      refine ⟨fun h => hbad (.inr (.inl h)), fun h => ⟨fun h2 => hbad (.inr (.inr h2)), fun h2 => ?_⟩⟩
      rw [if_neg (by omega)] at hj
      exact Next.intro (i + 1, o.choices[i].ask) rfl rfl ⟨by simp only []; omega, hj⟩ (by simp only []; omega)
    · simp only [h1, c4]
      exact hbad (.inl h1)
  · have c1 : ¬ (i : Int) < o.choices.length := by omega
    rw [List.drop_eq_nil_of_le (by omega), chs] at hj
    rw [checkO, if_neg (by rw [← hj]; simp)] at hS
    clear hj hlt hi
    simp only [c1]
    rw [uf20l48]
    refine awl_loop (fun x : Nat × Int => [(1, .k (.ptr 1 0)), (3, .int .i64 x.2), (39, lst 4 (o.rules.map encRule)), (40, .int .i64 o.rules.length), (41, .int .i64 x.1)]) (fun _ => [(1, .var 25 (orV o))])
      (fun x => x.1 ≤ o.rules.length ∧ rls (o.rules.drop x.1) x.2 = rls o.rules (-1)) (fun x => o.rules.length - x.1) (0, -1) rfl rfl ⟨Nat.zero_le _, rfl⟩ ?_
    rintro ⟨i, last⟩ ⟨hi, hj⟩
    simp only [] at hi hj
    by_cases hlt : i < o.rules.length
    · have c1 : (i : Int) < o.rules.length := by omega
      have c4 : IntKind.i64.wrap ((i : Int) + 1) = (i : Int) + 1 := wrap_in (by omega) (by omega)
      rw [rls_drop hlt] at hj
      simp only [c1, c4, map_at hlt]
      refine call_s (s45 last o.rules[i].ask) ?_
      by_cases h1 : last < o.rules[i].ask ∧ o.rules[i].ask < 22
      · rw [if_neg (by omega)] at hj
        simp only [h1, c4, and_self]
        exact Next.intro (i + 1, o.rules[i].ask) rfl rfl ⟨by simp only []; omega, hj⟩ (by simp only []; omega)
      · rw [if_pos h1] at hj
        simp only [h1, c4]
        exact fin hS (by rw [if_pos hj.symm])
    · have c1 : ¬ (i : Int) < o.rules.length := by omega
      rw [List.drop_eq_nil_of_le (by omega), rls] at hj
      rw [if_neg (by rw [← hj]; simp)] at hS
      have hr := hj.symm
      clear hj hlt hi
      simp only [c1]
      refine call_r s44 ?_
      simp only [kindsRow_len, List.length_map]
      rw [uf20l25]
      refine awl_loop (fun i : Nat => [(8, .k (.ptr 8 0)), (55, lst 4 (o.rules.map encRule)), (56, .int .i64 o.rules.length), (57, .int .i64 i)]) (fun _ => [(8, .var 65 (kindsRow.map .c))])
        (fun i => i ≤ o.rules.length ∧ tys (o.rules.drop i) = tys o.rules) (fun i => o.rules.length - i) 0 rfl rfl ⟨Nat.zero_le _, rfl⟩ ?_
      rintro i ⟨hi, hj⟩
      by_cases hlt : i < o.rules.length
      · have c1 : (i : Int) < o.rules.length := by omega
        have c4 : IntKind.i64.wrap ((i : Int) + 1) = (i : Int) + 1 := wrap_in (by omega) (by omega)
        rw [tys_drop hlt] at hj
        obtain ⟨q1, q2⟩ := rls_range _ _ hr o.rules[i] (List.getElem_mem hlt)
        have q3 : 0 ≤ o.rules[i].ask := by omega
        have q4 := kinds_at q3 q2
        have q5 : o.rules[i].ask.toNat + 1 ≤ 22 := by omega
        simp only [c1, c4, map_at hlt]
        refine call_s (s31 o.rules[i].term) ?_
        simp only [pairV, q2, q3, q4, q5, c4, kindsRow_len, List.length_map]
        refine ⟨fun h => ?_, fun h => ⟨fun h2 => ?_, fun h2 => ?_⟩⟩
        · rw [if_pos h] at hj
          exact fin hS (by rw [← hj])
        · rw [if_neg (by simp [h]), if_pos h2] at hj
          exact fin hS (by rw [← hj])
        · rw [if_neg (by simp [h]), if_neg (by simp [h2])] at hj
          exact Next.intro (i + 1) rfl rfl ⟨by omega, hj⟩ (by omega)
      · have c1 : ¬ (i : Int) < o.rules.length := by omega
        rw [List.drop_eq_nil_of_le (by omega), tys] at hj
        simp only [c1]
        exact fin hS (by rw [← hj])
theorem s18 (l : List Order) : Spec Try.prog 18 [lst 4 (l.map encOrder)] (fun r => r = pairV (ordersO l 0)) := by
  refine Spec.of_len hf18 fun hlen => ?_
  have hl := len_lst (sz := 4) (rows := l.map encOrder) List.mem_cons_self hlen
  rw [List.length_map] at hl
  clear hlen
  refine Spec.of_awlS hf18 okf18 (by simp) fun S hS => ?_
  simp only []
  rw [uf18l19]
  refine awl_loop (fun i : Nat => [(7, lst 4 (l.map encOrder)), (8, .int .i64 l.length), (9, .int .i64 i)]) (fun _ => [])
    (fun i => i ≤ l.length ∧ ordersO (l.drop i) i = ordersO l 0) (fun i => l.length - i) 0 rfl rfl ⟨Nat.zero_le _, rfl⟩ ?_
  rintro i ⟨hi, hj⟩
  by_cases hlt : i < l.length
  · have c1 : (i : Int) < l.length := by omega
    have c4 : IntKind.i64.wrap ((i : Int) + 1) = (i : Int) + 1 := wrap_in (by omega) (by omega)
    rw [ordersO_drop hlt] at hj
    simp only [c1, map_at hlt]
    refine call_s (s20 l[i]) ?_
    simp only [c4]
    refine ⟨fun h => ?_, fun h => ?_⟩
    · rw [if_pos h] at hj
      exact fin hS (by rw [← hj]; rfl)
    · rw [if_neg (by simp [h])] at hj
      exact Next.intro (i + 1) rfl rfl ⟨by omega, hj⟩ (by omega)
  · have c1 : ¬ (i : Int) < l.length := by omega
    rw [List.drop_eq_nil_of_le (by omega), ordersO] at hj
    simp only [c1]
    exact fin hS (by rw [← hj]; rfl)
end Go.Abs

set_option maxRecDepth 100000
set_option maxHeartbeats 4000000
namespace Go.Abs
open Go.Proofs
/-- the question before place i -/
def Last (asks : List Int) (i : Nat) (last : Int) : Prop := (i = 0 ∧ last = -1) ∨ ∃ m, i = m + 1 ∧ asks[m]? = some last ∧ 0 ≤ last
theorem s21 (o : Order) : Spec Try.prog 21 [.agg (encOrder o)] (fun r => r = .int .i64 (checkO o)) := by
  refine Spec.of_len hf21 fun hlen => ?_
  have hl := len_rules (o := o) List.mem_cons_self hlen
  clear hlen
  obtain ⟨hl1, hl2⟩ := hl
  refine Spec.of_awlS hf21 okf21 (by simp) fun S hS => ?_
  simp only []
  rw [uf21l63]
  refine awl_loop (fun x : Nat × Int => [(1, .k (.ptr 1 0)), (3, .int .i64 x.1)]) (fun _ => [(1, .var 25 (orV o))])
    (fun x => x.1 ≤ o.choices.length ∧ chs (o.choices.drop x.1) x.2 = chs o.choices (-1) ∧ Last (o.choices.map (·.ask)) x.1 x.2) (fun x => o.choices.length - x.1) (0, -1) rfl rfl ⟨Nat.zero_le _, rfl, .inl ⟨rfl, rfl⟩⟩ ?_
  rintro ⟨i, last⟩ ⟨hi, hj, hL⟩
  simp only [] at hi hj hL
  by_cases hlt : i < o.choices.length
  · have c1 : (i : Int) < o.choices.length := by omega
    have c4 : IntKind.i64.wrap ((i : Int) + 1) = (i : Int) + 1 := wrap_in (by omega) (by omega)
    rw [chs_drop hlt] at hj
    have hbad : (¬ (last < o.choices[i].ask ∧ o.choices[i].ask < 22) ∨ o.choices[i].by_ < 0 ∨ o.choices[i].by_ ≥ 5) → S (.k (.c (.int .i64 1))) := by
      intro h
      rw [if_pos h] at hj
      exact fin hS (by rw [checkO, if_pos hj.symm])
    have hgo : ¬ (¬ (last < o.choices[i].ask ∧ o.choices[i].ask < 22) ∨ o.choices[i].by_ < 0 ∨ o.choices[i].by_ ≥ 5) → 0 ≤ o.choices[i].ask → (chs (o.choices.drop (i + 1)) o.choices[i].ask = chs o.choices (-1) ∧ Last (o.choices.map (·.ask)) (i + 1) o.choices[i].ask) := by
      intro h h2
      rw [if_neg h] at hj
      exact ⟨hj, .inr ⟨i, rfl, by simp [hlt], h2⟩⟩
    clear hj
    rcases hL with ⟨rfl, rfl⟩ | ⟨m, rfl, hm, h0⟩
    · have c2 : ¬ ((0 : Nat) : Int) > 0 := by omega
      simp only [Int.natCast_zero] at c1 c4
      simp only [c1, c4, c2, map_at hlt]
      refine ⟨fun h => hbad (by omega), fun h1 => ⟨fun h => hbad (by omega), fun h2 => ⟨fun h => hbad (by omega), fun h3 => ⟨fun h => hbad (by omega), fun h4 => ?_⟩⟩⟩⟩
      obtain ⟨g1, g2⟩ := hgo (by omega) (by omega)
      exact Next.intro (0 + 1, o.choices[0].ask) rfl rfl ⟨by simp only []; omega, g1, g2⟩ (by simp only []; omega)
    · have c2 : (((m + 1 : Nat) : Int)) > 0 := by omega
      have c5 : IntKind.i64.wrap (((m + 1 : Nat) : Int) - 1) = (m : Int) := by rw [wrap_in (by omega) (by omega)]; omega
      have hm1 : m < o.choices.length := by omega
      have c6 : (m : Int) < o.choices.length := by omega
      have hml : o.choices[m].ask = last := by
        rw [List.getElem?_map, List.getElem?_eq_getElem hm1] at hm
        simpa using hm
      simp only [c1, c4, c2, c5, c6, map_at hlt, map_at hm1]
      rw [hml]
      refine ⟨fun h => hbad (by omega), fun h1 => ⟨fun h => hbad (by omega), fun h2 => ⟨fun h => hbad (by omega), fun h3 => ⟨fun h => hbad (by omega), fun h4 => ⟨fun h => hbad (by omega), fun h5 => ?_⟩⟩⟩⟩⟩
      obtain ⟨g1, g2⟩ := hgo (by omega) (by omega)
      exact Next.intro (m + 1 + 1, o.choices[m + 1].ask) rfl rfl ⟨by simp only []; omega, g1, g2⟩ (by simp only []; omega)
  · have c1 : ¬ (i : Int) < o.choices.length := by omega
    rw [List.drop_eq_nil_of_le (by omega), chs] at hj
    rw [checkO, if_neg (by rw [← hj]; simp)] at hS
    simp only [c1]
    rw [uf21l44]
    clear hj hL
    refine awl_loop (fun x : Nat × Int => [(1, .k (.ptr 1 0)), (5, .int .i64 x.1)]) (fun _ => [(1, .var 25 (orV o))])
      (fun x => x.1 ≤ o.rules.length ∧ rls (o.rules.drop x.1) x.2 = rls o.rules (-1) ∧ Last (o.rules.map (·.ask)) x.1 x.2) (fun x => o.rules.length - x.1) (0, -1) rfl rfl ⟨Nat.zero_le _, rfl, .inl ⟨rfl, rfl⟩⟩ ?_
    rintro ⟨i, last⟩ ⟨hi, hj, hL⟩
    simp only [] at hi hj hL
    by_cases hlt : i < o.rules.length
    · have c1 : (i : Int) < o.rules.length := by omega
      have c4 : IntKind.i64.wrap ((i : Int) + 1) = (i : Int) + 1 := wrap_in (by omega) (by omega)
      rw [rls_drop hlt] at hj
      have hbad : (¬ (last < o.rules[i].ask ∧ o.rules[i].ask < 22)) → S (.k (.c (.int .i64 1))) := by
        intro h
        rw [if_pos h] at hj
        exact fin hS (by rw [if_pos hj.symm])
      have hgo : (last < o.rules[i].ask ∧ o.rules[i].ask < 22) → 0 ≤ o.rules[i].ask → (rls (o.rules.drop (i + 1)) o.rules[i].ask = rls o.rules (-1) ∧ Last (o.rules.map (·.ask)) (i + 1) o.rules[i].ask) := by
        intro h h2
        rw [if_neg (by simpa using h)] at hj
        exact ⟨hj, .inr ⟨i, rfl, by simp [hlt], h2⟩⟩
      clear hj
      rcases hL with ⟨rfl, rfl⟩ | ⟨m, rfl, hm, h0⟩
      · have c2 : ¬ ((0 : Nat) : Int) > 0 := by omega
        simp only [Int.natCast_zero] at c1 c4
        simp only [c1, c4, c2, map_at hlt]
        refine ⟨fun h => hbad (by omega), fun h1 => ⟨fun h => hbad (by omega), fun h2 => ?_⟩⟩
        obtain ⟨g1, g2⟩ := hgo (by omega) (by omega)
        exact Next.intro (0 + 1, o.rules[0].ask) rfl rfl ⟨by simp only []; omega, g1, g2⟩ (by simp only []; omega)
      · have c2 : (((m + 1 : Nat) : Int)) > 0 := by omega
        have c5 : IntKind.i64.wrap (((m + 1 : Nat) : Int) - 1) = (m : Int) := by rw [wrap_in (by omega) (by omega)]; omega
        have hm1 : m < o.rules.length := by omega
        have c6 : (m : Int) < o.rules.length := by omega
        have hml : o.rules[m].ask = last := by
          rw [List.getElem?_map, List.getElem?_eq_getElem hm1] at hm
          simpa using hm
        simp only [c1, c4, c2, c5, c6, map_at hlt, map_at hm1]
        rw [hml]
        refine ⟨fun h => hbad (by omega), fun h1 => ⟨fun h => hbad (by omega), fun h2 => ⟨fun h => hbad (by omega), fun h5 => ?_⟩⟩⟩
        obtain ⟨g1, g2⟩ := hgo (by omega) (by omega)
        exact Next.intro (m + 1 + 1, o.rules[m + 1].ask) rfl rfl ⟨by simp only []; omega, g1, g2⟩ (by simp only []; omega)
    · have c1 : ¬ (i : Int) < o.rules.length := by omega
      rw [List.drop_eq_nil_of_le (by omega), rls] at hj
      rw [if_neg (by rw [← hj]; simp)] at hS
      have hr := hj.symm
      simp only [c1]
      rw [uf21l25]
      refine awl_loop (fun i : Nat => [(1, .k (.ptr 1 0)), (7, .int .i64 i)]) (fun _ => [(1, .var 25 (orV o))])
        (fun i => i ≤ o.rules.length ∧ tys (o.rules.drop i) = tys o.rules) (fun i => o.rules.length - i) 0 rfl rfl ⟨Nat.zero_le _, rfl⟩ ?_
      rintro i ⟨hi, hj⟩
      by_cases hlt : i < o.rules.length
      · have c1 : (i : Int) < o.rules.length := by omega
        have c4 : IntKind.i64.wrap ((i : Int) + 1) = (i : Int) + 1 := wrap_in (by omega) (by omega)
        rw [tys_drop hlt] at hj
        obtain ⟨q1, q2⟩ := rls_range _ _ hr o.rules[i] (List.getElem_mem hlt)
        simp only [c1, c4, map_at hlt]
        refine call_s (s32 o.rules[i].term) ?_
        simp only [pairV, c1, c4, map_at hlt]
        refine ⟨fun h => ?_, fun h => ?_⟩
        · rw [if_pos h] at hj
          exact fin hS (by rw [← hj])
        rw [if_neg (by simp [h])] at hj
        have ht : typeQ o.rules[i].ask = .tup [.int .i64 (qtype o.rules[i].ask), .bool true] := by rw [typeQ, if_neg (by omega)]
        have h17 := s17 o.rules[i].ask
        rw [ht] at h17
        refine call_s h17 ?_
        simp only [c1, c4, map_at hlt]
        refine ⟨fun h2 => ?_, fun h2 => ?_⟩
        · rw [if_pos h2] at hj
          exact fin hS (by rw [← hj])
        · rw [if_neg (by simp [h2])] at hj
          exact Next.intro (i + 1) rfl rfl ⟨by omega, hj⟩ (by omega)
      · have c1 : ¬ (i : Int) < o.rules.length := by omega
        rw [List.drop_eq_nil_of_le (by omega), tys] at hj
        simp only [c1]
        exact fin hS (by rw [← hj])
theorem s19 (l : List Order) : Spec Try.prog 19 [lst 4 (l.map encOrder)] (fun r => r = pairV (ordersO l 0)) := by
  refine Spec.of_len hf19 fun hlen => ?_
  have hl := len_lst (sz := 4) (rows := l.map encOrder) List.mem_cons_self hlen
  rw [List.length_map] at hl
  clear hlen
  refine Spec.of_awlS hf19 okf19 (by simp) fun S hS => ?_
  simp only []
  rw [uf19l17]
  refine awl_loop (fun i : Nat => [(0, lst 4 (l.map encOrder)), (4, .int .i64 i)]) (fun _ => [])
    (fun i => i ≤ l.length ∧ ordersO (l.drop i) i = ordersO l 0) (fun i => l.length - i) 0 rfl rfl ⟨Nat.zero_le _, rfl⟩ ?_
  rintro i ⟨hi, hj⟩
  by_cases hlt : i < l.length
  · have c1 : (i : Int) < l.length := by omega
    have c4 : IntKind.i64.wrap ((i : Int) + 1) = (i : Int) + 1 := wrap_in (by omega) (by omega)
    rw [ordersO_drop hlt] at hj
    simp only [c1, map_at hlt]
    refine call_s (s21 l[i]) ?_
    simp only [c4]
    refine ⟨fun h => ?_, fun h => ?_⟩
    · rw [if_pos h] at hj
      exact fin hS (by rw [← hj]; rfl)
    · rw [if_neg (by simp [h])] at hj
      exact Next.intro (i + 1) rfl rfl ⟨by omega, hj⟩ (by omega)
  · have c1 : ¬ (i : Int) < l.length := by omega
    rw [List.drop_eq_nil_of_le (by omega), ordersO] at hj
    simp only [c1]
    exact fin hS (by rw [← hj]; rfl)
end Go.Abs

set_option maxRecDepth 100000
set_option maxHeartbeats 4000000
namespace Go.Abs
open Go.Proofs
theorem of_orF {p : Prop} (h : p ∨ False) : p := h.elim id False.elim
def capI (q : Int) : C := .ro [.int .i64 q] 0
theorem s47 (r : Rule) (q : Int) : Spec Try.prog 47 [.agg (encRule r), .k (.c (capI q))] (fun x => x = .bool (decide (r.ask = q))) := by
  refine Spec.of_awlS hf47 okf47 (by simp) fun S hS => ?_
  simp only [capI]
  refine fin hS ?_
  by_cases h : r.ask = q <;> simp [h]
theorem s67 (l : List Rule) (q : Int) : Spec Try.prog 67 [lst 4 (l.map encRule), .k (.c (.fn 47 [capI q]))] (fun r => r = .int .i64 (rix l q 0)) := by
  refine Spec.of_len hf67 fun hlen => ?_
  have hl := len_lst (sz := 4) (rows := l.map encRule) List.mem_cons_self hlen
  rw [List.length_map] at hl
  clear hlen
  refine Spec.of_awlS hf67 okf67 (by simp) fun S hS => ?_
  simp only []
  rw [uf67l17]
  refine awl_loop (fun i : Nat => [(0, lst 4 (l.map encRule)), (1, .k (.c (.fn 47 [capI q]))), (7, .int .i64 l.length), (8, .int .i64 i)]) (fun _ => [])
    (fun i => i ≤ l.length ∧ rix (l.drop i) q i = rix l q 0) (fun i => l.length - i) 0 rfl rfl ⟨Nat.zero_le _, rfl⟩ ?_
  rintro i ⟨hi, hj⟩
  by_cases hlt : i < l.length
  · have c1 : (i : Int) < l.length := by omega
    have c4 : IntKind.i64.wrap ((i : Int) + 1) = (i : Int) + 1 := wrap_in (by omega) (by omega)
    rw [rix_drop hlt] at hj
    simp only [c1, c4, map_at hlt]
    refine call_c (s47 l[i] q) ?_ (ha := by simp [lendL, V.norm, capI])
    by_cases h : l[i].ask = q
    · rw [if_pos h] at hj
      simp only [h]
      exact fin hS (by rw [← hj])
    · rw [if_neg h] at hj
      simp only [h, c4]
      exact Next.intro (i + 1) rfl rfl ⟨by omega, hj⟩ (by omega)
  · have c1 : ¬ (i : Int) < l.length := by omega
    simp only [c1]
    rw [List.drop_eq_nil_of_le (by omega), rix] at hj
    exact fin hS (by rw [← hj])
theorem s46 (l : List Rule) (q : Int) : Spec Try.prog 46 [lst 4 (l.map encRule), .k (.c (.fn 47 [capI q]))] (fun r => r = .bool (hasR l q)) := by
  refine Spec.of_awlS hf46 okf46 (by simp) fun S hS => ?_
  simp only []
  refine call_s (s67 l q) ?_ (ha := by simp [lendL, V.norm, capI, lst])
  simp only []
  refine fin hS ?_
  have := (rix_neg l q 0 (by omega)).2
  congr 3
  by_cases h : 0 ≤ rix l q 0
  · simp [h, this.1 h]
  · have h2 : hasR l q = false := by
      cases hh : hasR l q
      · rfl
      · exact absurd (this.2 hh) h
    simp [h2]; omega
theorem s53 (v : Int) : Spec Try.prog 53 [.int .i64 v] (fun x => x = .bool (decide (v ≥ 15))) := by
  refine Spec.of_awlS hf53 okf53 (by simp) fun S hS => ?_
  simp only []
  exact fin hS rfl
theorem s70 (l : List Int) : Spec Try.prog 70 [lst 1 (ints l), .k (.c (.fn 53 []))] (fun r => r = .int .i64 (ixP (fun v => decide (v ≥ 15)) l 0)) := by
  refine Spec.of_len hf70 fun hlen => ?_
  have hl := len_lst (sz := 1) (rows := ints l) List.mem_cons_self hlen
  rw [ints_len] at hl
  clear hlen
  refine Spec.of_awlS hf70 okf70 (by simp) fun S hS => ?_
  simp only []
  rw [uf70l17]
  refine awl_loop (fun i : Nat => [(0, lst 1 (ints l)), (1, .k (.c (.fn 53 []))), (7, .int .i64 l.length), (8, .int .i64 i)]) (fun _ => [])
    (fun i => i ≤ l.length ∧ ixP (fun v => decide (v ≥ 15)) (l.drop i) i = ixP (fun v => decide (v ≥ 15)) l 0) (fun i => l.length - i) 0 rfl rfl ⟨Nat.zero_le _, rfl⟩ ?_
  rintro i ⟨hi, hj⟩
  by_cases hlt : i < l.length
  · have c1 : (i : Int) < l.length := by omega
    have c4 : IntKind.i64.wrap ((i : Int) + 1) = (i : Int) + 1 := wrap_in (by omega) (by omega)
    rw [ixP_drop hlt] at hj
    simp only [c1, c4, ints_at hlt]
    refine call_c (s53 l[i]) ?_
    by_cases h : l[i] ≥ 15
    · rw [if_pos (by simpa using h)] at hj
      simp only [h]
      exact fin hS (by rw [← hj])
    · rw [if_neg (by simpa using h)] at hj
      simp only [h, c4]
      exact Next.intro (i + 1) rfl rfl ⟨by omega, hj⟩ (by omega)
  · have c1 : ¬ (i : Int) < l.length := by omega
    simp only [c1]
    rw [List.drop_eq_nil_of_le (by omega), ixP] at hj
    exact fin hS (by rw [← hj])
theorem s52 (l : List Int) : Spec Try.prog 52 [lst 1 (ints l), .k (.c (.fn 53 []))] (fun r => r = .bool (l.any fun v => decide (v ≥ 15))) := by
  refine Spec.of_awlS hf52 okf52 (by simp) fun S hS => ?_
  simp only []
  refine call_s (s70 l) ?_
  simp only []
  refine fin hS ?_
  have := ixP_any (fun v => decide (v ≥ 15)) l 0 (by omega)
  generalize ixP (fun v => decide (v ≥ 15)) l 0 = n at *
  congr 3
  by_cases h : 0 ≤ n
  · have h2 := this.1 h
    rw [h2]; simp [h]
  · have h2 : (l.any fun v => decide (v ≥ 15)) = false := by
      cases hh : (l.any fun v => decide (v ≥ 15))
      · rfl
      · exact absurd (this.2 hh) h
    rw [h2]; simp; omega
/-- filters, one by one -/
def filt (p : Int → Bool) (i n : Nat) : List Int := ((List.range i).map fun (q : Nat) => (q : Int)).filter p
theorem upto_succ (i : Nat) : upto (i + 1) = upto i ++ [(i : Int)] := by simp [upto, List.range_succ]
theorem upto_filter (p : Int → Bool) (i : Nat) : (upto (i + 1)).filter p = if p i = true then (upto i).filter p ++ [(i : Int)] else (upto i).filter p := by
  rw [upto_succ, List.filter_append]
  by_cases h : p i = true <;> simp [h]
theorem filter_le (p : Int → Bool) (i : Nat) : ((upto i).filter p).length ≤ i := Nat.le_trans (List.length_filter_le _ _) (by simp [upto])
theorem s24 (o : Order) : Spec Try.prog 24 [.agg (encOrder o)] (fun r => r = .k (.newl 3 1 none (ints (gapsO o)))) := by
  refine Spec.of_awlS hf24 okf24 (by simp) fun S hS => ?_
  simp only []
  rw [uf24l14]
  refine awl_loop (fun i : Nat => [(1, .k (.ptr 1 0)), (3, .k (.own 5)), (4, .int .i64 i)])
    (fun i => [(1, .var 25 ((encOrder o).map .c)), (5, .arr 3 1 (some false) (ints ((upto i).filter fun q => !(hasR o.rules q))))]) (fun i => i ≤ 22) (fun i => 22 - i) 0 rfl rfl (Nat.zero_le _) ?_
  intro i hi
  by_cases hlt : i < 22
  · have c1 : (i : Int) < 22 := by omega
    have c4 : IntKind.i64.wrap ((i : Int) + 1) = (i : Int) + 1 := wrap_in (by omega) (by omega)
    simp only [c1, c4]
    refine call_s (s48 o i) ?_
    have hr := rix_neg o.rules i 0 (by omega)
    have hu := upto_filter (fun q => !(hasR o.rules q)) i
    have hle := filter_le (fun q => !(hasR o.rules q)) i
    by_cases h : rix o.rules i 0 < 0
    · simp only [h, c4]
      refine ⟨by omega, by omega, Next.intro (i + 1) rfl ?_ (by omega) (by omega)⟩
      rw [hu, if_pos (by rw [hr.1.1 h]; rfl), ints_snoc]; rfl
    · simp only [h, c4]
      refine Next.intro (i + 1) rfl ?_ (by omega) (by omega)
      rw [hu, if_neg (by rw [hr.2.1 (by omega)]; simp)]; rfl
  · have c1 : ¬ (i : Int) < 22 := by omega
    obtain rfl : i = 22 := by omega
    simp only [c1]
    exact hS
theorem s36 (t : Term) : Spec Try.prog 36 [.agg (encT t)] (fun r => r = .k (.newl 3 1 none (ints (varsT t)))) := by
  refine Spec.of_awlS hf36 okf36 (by simp) fun S hS => ?_
  simp only []
  refine call_s (s32 t) ?_
  simp only [pairV]
  rw [uf36l16]
  refine awl_loop (fun i : Nat => [(1, .k (.ptr 1 0)), (3, .k (.own 8)), (5, .int .i64 (checkT t).2), (6, .int .i64 i)])
    (fun i => [(1, .var 41 ((encT t).map .c)), (8, .arr 3 1 (some false) (ints ((upto i).filter (used t))))]) (fun i => i ≤ 20 ∧ ((checkT t).2 ≠ 0 → i = 0)) (fun i => 20 - i) 0 rfl rfl ⟨Nat.zero_le _, fun _ => rfl⟩ ?_
  rintro i ⟨hi, h0⟩
  by_cases he : (checkT t).2 = 0
  · by_cases hlt : i < 20
    · have c1 : (i : Int) < 20 := by omega
      have c4 : IntKind.i64.wrap ((i : Int) + 1) = (i : Int) + 1 := wrap_in (by omega) (by omega)
      simp only [he, c1, c4]
      refine call_s (s63 t i) ?_
      have hu := upto_filter (used t) i
      have hle := filter_le (used t) i
      cases h : used t i
      · rw [if_neg (by simp [h])] at hu
        simp only [h, c4]
        exact Next.intro (i + 1) rfl (by rw [hu]; rfl) (by omega) (by omega)
      · rw [if_pos h] at hu
        simp only [h, c4]
        refine ⟨by omega, by omega, Next.intro (i + 1) rfl (by rw [hu, ints_snoc]; rfl) (by omega) (by omega)⟩
    · have c1 : ¬ (i : Int) < 20 := by omega
      obtain rfl : i = 20 := by omega
      simp only [c1]
      rw [varsT, if_neg (by simp [he])] at hS
      exact hS
  · obtain rfl := h0 he
    simp only [he]
    rw [varsT, if_pos he] at hS
    exact hS
/-- a list that began as nil -/
def nlI (l : List Int) : Option Bool := if l.isEmpty = true then some true else some false
theorem nlI_nil : nlI [] = some true := rfl
theorem nlI_snoc (l : List Int) (x : Int) : nlI (l ++ [x]) = some false := by simp [nlI]
theorem nlI_app (l : List Int) (r : List C) (rs : List (List C)) : nlApp (nlI l) (r :: rs) = some false := rfl
theorem s23 (o : Order) : Spec Try.prog 23 [.agg (encOrder o)] (fun r => r = .k (.newl 3 1 none (ints (gapsO o)))) := by
  refine Spec.of_awlS hf23 okf23 (by simp) fun S hS => ?_
  simp only []
  rw [uf23l16]
  refine awl_loop (fun i : Nat => [(1, .k (.ptr 1 0)), (3, .k (.own 3)), (5, .int .i64 i)])
    (fun i => [(1, .var 25 ((encOrder o).map .c)), (3, .arr 3 1 (nlI ((upto i).filter fun q => !(hasR o.rules q))) (ints ((upto i).filter fun q => !(hasR o.rules q))))]) (fun i => i ≤ 22) (fun i => 22 - i) 0 rfl rfl (Nat.zero_le _) ?_
  intro i hi
  by_cases hlt : i < 22
  · have c1 : (i : Int) < 22 := by omega
    have c4 : IntKind.i64.wrap ((i : Int) + 1) = (i : Int) + 1 := wrap_in (by omega) (by omega)
    simp only [c1, c4]
    refine call_f 4 (by simp [look, lookT]) (by simp [V.hard, V.toks, Abs.K.toks, Cap.toks]) (by simp [lookO, plainO, Abs.K.toks]) ?_
    simp only []
    refine of_orF (call_s (s46 o.rules i) ?_ (ha := by simp [lendL, V.norm, capI, lst]))
    have hu := upto_filter (fun q => !(hasR o.rules q)) i
    have hle := filter_le (fun q => !(hasR o.rules q)) i
    cases h : hasR o.rules i
    · rw [if_pos (by rw [h]; rfl)] at hu
      simp only [h, c4, nlI_app]
      refine ⟨by omega, by omega, Next.intro (i + 1) rfl ?_ (by omega) (by omega)⟩
      rw [hu, ints_snoc, nlI_snoc]; rfl
    · rw [if_neg (by rw [h]; simp)] at hu
      simp only [h, c4]
      refine Next.intro (i + 1) rfl ?_ (by omega) (by omega)
      rw [hu]; rfl
  · have c1 : ¬ (i : Int) < 22 := by omega
    obtain rfl : i = 22 := by omega
    simp only [c1]
    exact hS
end Go.Abs

namespace Go.Proofs
open Go.Shelf
shelf_lay Lays.n189 Nm 189 at Try as Try.laysSort
shelf_lay Lays2.n20 Nm2 20 at Try as Try.laysCompact
end Go.Proofs
set_option maxRecDepth 100000
namespace Go.Abs
open Go.Proofs
theorem callable_at {P : Program} {f : FuncId} (h : (match P.funcs[f]? with | some fn => fn.body.isSome && !(fn.name == "runtime.NumGoroutine") | none => false) = true) : Callable P f := by
  cases hf : P.funcs[f]? with
  | none => rw [hf] at h; cases h
  | some fn =>
    rw [hf] at h
    simp only [Bool.and_eq_true, Bool.not_eq_true'] at h
    exact ⟨fn, hf, h.1, h.2⟩
theorem s49 {e : TypeId} {τ : Nat} {l : List Int} (hl : l.length < 4611686018427387904) : SpecS Try.prog 49 [.k (.own τ)] (oneI e τ l) [τ] (fun r o' => r = .tup [] ∧ o' = oneI e τ (sortI l)) :=
  sort_spec Try.laysSort (callable_at (by kernel_rfl)) hl
theorem s50 {e : TypeId} {τ : Nat} {l : List Int} : SpecS Try.prog 50 [.k (.own τ)] (oneI e τ l) [] (fun r o' => r = .k (.own τ) ∧ o' = oneI e τ (Lib.compact l)) :=
  compact_spec Try.laysCompact (callable_at (by kernel_rfl))
end Go.Abs

set_option maxRecDepth 100000
set_option maxHeartbeats 4000000
namespace Go.Abs
open Go.Proofs
mutual
def szT : Term → Nat
  | .mk _ _ a => 1 + szL a
def szL : List Term → Nat
  | [] => 0
  | t :: l => szT t + szL l
end
theorem szT_eq (t : Term) : szT t = 1 + szL t.args := by cases t; simp only [szT, Term.args]
theorem szL_drop {l : List Term} {i : Nat} (h : i < l.length) : szL (l.drop i) = szT l[i] + szL (l.drop (i + 1)) := by
  rw [List.drop_eq_getElem_cons h, szL]
theorem szL_le : ∀ (l : List Term), l.length ≤ szL l
  | [] => by simp [szL]
  | t :: l => by have := szL_le l; rw [szL, szT_eq]; simp; omega
mutual
theorem coll_len : ∀ (t : Term) (acc : List Int), (coll t acc).length ≤ acc.length + szT t
  | .mk o n a, acc => by
    simp only [coll, szT]
    have := collL_len a (if o = 2 then acc ++ [n] else acc)
    split at this <;> simp_all <;> omega
theorem collL_len : ∀ (l : List Term) (acc : List Int), (collL l acc).length ≤ acc.length + szL l
  | [], acc => by simp [collL, szL]
  | t :: l, acc => by
    simp only [collL, szL]
    have h1 := coll_len t acc
    have h2 := collL_len l (coll t acc)
    omega
end
/-- the objects of the walk -/
def walkO (acc : List Int) : OS := [(1005, .var 36 [.own 1000]), (1006, .var 80 [.fnk 62 [.tok 1005, .tok 1006]]), (1000, .arr 3 1 none (ints acc))]
def walkT : List Nat := [1005, 1006, 1000]
theorem s62 : ∀ (t : Term) (acc : List Int), acc.length + szT t ≤ 1000000 → SpecS Try.prog 62 [.agg (encT t), .k (.ptr 1005 0), .k (.ptr 1006 0)] (tabL walkT (walkO acc)) [1005, 1006] (fun r o' => r = .tup [] ∧ o' = tabL walkT (walkO (coll t acc))) := by
  refine Term.ind fun o n a ih acc => ?_
  generalize ht : Term.mk o n a = t
  have ha : a = t.args := by rw [← ht]; rfl
  rw [ha] at ih
  clear ht ha o n a
  intro hsz
  have hsz' := hsz
  rw [szT_eq] at hsz'
  have hal := szL_le t.args
  refine SpecS.of_awl (anchors := [(1, 1005), (2, 1006)]) hf62 okf62 (by simp) (by rfl) (by simp [walkO, walkT]) ?_
  generalize hS : (fun (r : V) (o' : Nat → Option O) => r = .tup [] ∧ o' = tabL walkT (walkO (coll t acc))) = S
  rw [coll_eq] at hS
  have loop : ∀ (acc' : List Int) (nl : Option Bool), acc'.length + szL t.args ≤ 1000000 → collL t.args acc' = collL t.args (if t.op = 2 then acc ++ [t.n] else acc) →
      ∀ ts os, keepT ts [1, 2, 15, 16, 17] = [(1, .k (.ptr 1005 0)), (2, .k (.ptr 1006 0)), (15, lst 3 (t.args.map encT)), (16, .int .i64 t.args.length), (17, .int .i64 0)] →
      keepO os [1000, 1005, 1006] = [(1000, .arr 3 1 nl (ints acc')), (1005, .var 36 [.own 1000]), (1006, .var 80 [.fnk 62 [.tok 1005, .tok 1006]])] →
      awl Try.prog f62l11 (AE.inBlockL 0 (endSK [] [.agg (encT t), .k (.ptr 1005 0), .k (.ptr 1006 0)] (tabL walkT (walkO acc)) walkT [(1, 1005), (2, 1006)] S)) ts os := by
    intro acc' nl hacc hcoll ts os hts hos
    rw [uf62l11]
    refine awl_loop (fun x : Nat × List Int × Option Bool => [(1, .k (.ptr 1005 0)), (2, .k (.ptr 1006 0)), (15, lst 3 (t.args.map encT)), (16, .int .i64 t.args.length), (17, .int .i64 x.1)])
      (fun x => [(1000, .arr 3 1 x.2.2 (ints x.2.1)), (1005, .var 36 [.own 1000]), (1006, .var 80 [.fnk 62 [.tok 1005, .tok 1006]])])
      (fun x => x.1 ≤ t.args.length ∧ x.2.1.length + szL (t.args.drop x.1) ≤ 1000000 ∧ collL (t.args.drop x.1) x.2.1 = collL t.args acc') (fun x => t.args.length - x.1) (0, acc', nl) hts hos ⟨Nat.zero_le _, by simpa using hacc, rfl⟩ ?_
    rintro ⟨i, ac, nl⟩ ⟨hi, hb, hj⟩
    simp only [] at hi hb hj
    by_cases hlt : i < t.args.length
    · have c1 : (i : Int) < t.args.length := by omega
      have c4 : IntKind.i64.wrap ((i : Int) + 1) = (i : Int) + 1 := wrap_in (by omega) (by omega)
      rw [szL_drop hlt] at hb
      rw [collL_drop hlt] at hj
      have hcl := coll_len t.args[i] ac
      simp only [c1, map_at hlt, encT_len]
      refine .inr ⟨_, _, rfl, ?_⟩
      refine call_tab (dead := [1000]) (ih t.args[i] (List.getElem_mem hlt) ac (by omega)) ?_ (by simp [V.within, Abs.K.within, capV, walkT]) (by simp [Cap.live, lookO, isVarO]) (by simp [walkT]) (by simp [capV, V.nrm, Abs.K.nrm, encT_norm]) ?_ ?_ ?_ ?_ (by rfl)
      · simp only [c4, walkO]
        exact Next.intro (i + 1, coll t.args[i] ac, none) rfl rfl ⟨by simp only []; omega, by simp only []; omega, hj⟩ (by simp only []; omega)
      · simp [walkT, lookO, O.within, Abs.K.within, Cap.within]
      · simp [walkT, walkO, lookO, O.nrm, Abs.K.nrm]
      · simp [walkT, walkO, lookO]
      · simp [walkT, walkO, O.within, Abs.K.within, Cap.within]
    · have c1 : ¬ (i : Int) < t.args.length := by omega
      rw [List.drop_eq_nil_of_le (by omega), collL] at hj
      simp only [c1]
      rw [← hcoll, ← hj] at hS
      have htab := tabL_eq (T := walkT) (os := [(1000, .arr 3 1 none (ints ac)), (1005, .var 36 [.own 1000]), (1006, .var 80 [.fnk 62 [.tok 1005, .tok 1006]])]) (L := walkO ac) (by simp [walkT, walkO, lookO])
      rw [htab, ← hS]
      refine ⟨⟨rfl, rfl⟩, rfl, ?_, ?_, ?_⟩
      · simp [walkT, lookO, O.within, Abs.K.within, Cap.within]
      · simp [walkT, walkO, tabL, tabIn, lookO, likeVar]
      · simp [walkT, walkO, tabL, tabIn, lookO, likeVar]
  by_cases h2 : t.op = 2
  · rw [if_pos h2] at hS loop
    have hlen : (acc ++ [t.n]).length = acc.length + 1 := by simp
    have hop : encT t = [.int .i64 2, .int .i64 t.n, lstC 3 (t.args.map encT)] := by rw [encT_eq, h2]
    simp only [walkO, hop]
    refine ⟨by omega, by omega, ?_⟩
    have := loop (acc ++ [t.n]) (some false) (by omega) rfl
    rw [hop] at this
    exact this _ _ rfl (by rw [ints_snoc]; rfl)
  · rw [if_neg h2] at hS loop
    have := loop acc none (by omega) rfl
    rw [encT_eq] at this
    simp only [walkO, encT_eq t, h2]
    exact this _ _ rfl rfl

theorem szT_nodes : ∀ (f : Nat), (∀ (t : Term) (k : Int), 0 ≤ nodes t k f → (szT t : Int) ≤ k - nodes t k f) ∧ (∀ (l : List Term) (k : Int), 0 ≤ nodesL l k f → (szL l : Int) ≤ k - nodesL l k f) := by
  intro f
  induction f with
  | zero =>
    have h1 : ∀ (t : Term) (k : Int), 0 ≤ nodes t k ((0 : Nat) : Int) → (szT t : Int) ≤ k - nodes t k ((0 : Nat) : Int) := by
      intro t k h
      rw [nodes_eq, if_pos (by omega)] at h
      omega
    refine ⟨h1, fun l => ?_⟩
    induction l with
    | nil => intro k h; simp [nodesL, szL]
    | cons a l ih =>
      intro k h
      simp only [nodesL] at h ⊢
      by_cases hk : k < 0
      · rw [if_pos hk] at h; omega
      · rw [if_neg hk] at h ⊢
        have := ih _ h
        by_cases hn : nodes a k ((0 : Nat) : Int) < 0
        · rw [nodesL_neg _ _ _ hn] at h; omega
        · have := h1 a k (by omega)
          rw [szL]; omega
  | succ f ih =>
    have h1 : ∀ (t : Term) (k : Int), 0 ≤ nodes t k ((f + 1 : Nat) : Int) → (szT t : Int) ≤ k - nodes t k ((f + 1 : Nat) : Int) := by
      intro t k h
      rw [nodes_eq, if_neg (by omega)] at h ⊢
      have e : ((f + 1 : Nat) : Int) - 1 = (f : Nat) := by omega
      rw [e] at h ⊢
      have := ih.2 t.args (k - 1) h
      rw [szT_eq]; omega
    refine ⟨h1, fun l => ?_⟩
    induction l with
    | nil => intro k h; simp [nodesL, szL]
    | cons a l ih =>
      intro k h
      simp only [nodesL] at h ⊢
      by_cases hk : k < 0
      · rw [if_pos hk] at h; omega
      · rw [if_neg hk] at h ⊢
        have := ih _ h
        by_cases hn : nodes a k ((f + 1 : Nat) : Int) < 0
        · rw [nodesL_neg _ _ _ hn] at h; omega
        · have := h1 a k (by omega)
          rw [szL]; omega
theorem s35 (t : Term) : Spec Try.prog 35 [.agg (encT t)] (fun r => r = .k (.newl 3 1 none (ints (if (checkT t).2 ≠ 0 then [] else Lib.compact (sortI (coll t [])))))) := by
  refine Spec.of_awlS hf35 okf35 (by simp) fun S hS => ?_
  simp only []
  refine call_s (s31 t) ?_
  simp only [pairV]
  refine ⟨fun h => ?_, fun h => ?_⟩
  · rw [if_pos h] at hS
    exact hS
  · rw [if_neg (by simp [h])] at hS
    have hck : (checkT t).2 = 0 := h
    have hsz : szT t ≤ 60 := by
      have hn : ¬ nodes t 60 8 < 0 := by
        intro hn
        rw [checkT, if_pos hn] at hck
        simp at hck
      have := (szT_nodes 8).1 t 60 (by simp; omega)
      have e8 : ((8 : Nat) : Int) = 8 := rfl
      rw [e8] at this
      omega
    have hcl := coll_len t []
    simp only [List.length_nil, Nat.zero_add] at hcl
    refine .inr ⟨_, _, rfl, ?_⟩
    refine call_tab (dead := [1000]) (s62 t [] (by simp; omega)) ?_ (by simp [V.within, Abs.K.within, capV, walkT]) (by simp [Cap.live, lookO, isVarO]) (by simp [walkT]) (by simp [capV, V.nrm, Abs.K.nrm, encT_norm]) ?_ ?_ ?_ ?_ (by rfl)
    · simp only [walkO]
      refine call_sort (coll t []) (s49 (by omega)) rfl ?_
      simp only []
      refine call_compact (sortI (coll t [])) s50 rfl ?_
      simp only []
      rw [intRows_norm]
      exact hS
    · simp [walkT, lookO, O.within, Abs.K.within, Cap.within]
    · simp [walkT, walkO, lookO, O.nrm, Abs.K.nrm, ints]
    · simp [walkT, walkO, lookO]
    · simp [walkT, walkO, O.within, Abs.K.within, Cap.within]
end Go.Abs

/- Sorting and compacting: what comes out is the ascending list of what is in. -/
namespace Go.Abs
theorem asc_ext : ∀ (l m : List Int), l.Pairwise (· < ·) → m.Pairwise (· < ·) → (∀ x, x ∈ l ↔ x ∈ m) → l = m
  | [], [], _, _, _ => rfl
  | [], b :: m, _, _, h => by have := (h b).2 (by simp); simp at this
  | a :: l, [], _, _, h => by have := (h a).1 (by simp); simp at this
  | a :: l, b :: m, hl, hm, h => by
    rw [List.pairwise_cons] at hl hm
    have hab : a = b := by
      have h1 := (h a).1 (by simp)
      have h2 := (h b).2 (by simp)
      rcases List.mem_cons.1 h1 with h1 | h1
      · exact h1
      · rcases List.mem_cons.1 h2 with h2 | h2
        · exact h2.symm
        · have := hl.1 b h2; have := hm.1 a h1; omega
    subst hab
    rw [asc_ext l m hl.2 hm.2 (fun x => ?_)]
    have hx := h x
    simp only [List.mem_cons] at hx
    constructor
    · intro hxl
      rcases hx.1 (.inr hxl) with rfl | hxm
      · have := hl.1 x hxl; omega
      · exact hxm
    · intro hxm
      rcases hx.2 (.inr hxm) with rfl | hxl
      · have := hm.1 x hxm; omega
      · exact hxl
theorem upto_asc (n : Nat) : (upto n).Pairwise (· < ·) := by
  unfold upto
  rw [List.pairwise_map]
  exact List.pairwise_lt_range.imp (fun h => by omega)
theorem mem_upto (n : Nat) (x : Int) : x ∈ upto n ↔ 0 ≤ x ∧ x < n := by
  simp only [upto, List.mem_map, List.mem_range]
  constructor
  · rintro ⟨a, h, rfl⟩; omega
  · rintro ⟨h1, h2⟩; exact ⟨x.toNat, by omega, by omega⟩
theorem sortI_asc (l : List Int) : (sortI l).Pairwise (· ≤ ·) := by
  have := List.pairwise_mergeSort (le := fun x y : Int => decide (x ≤ y)) (fun a b c h1 h2 => by simp at *; omega) (fun a b => by simp; omega) l
  exact this.imp (fun h => by simpa using h)
theorem mem_sortI (l : List Int) (x : Int) : x ∈ sortI l ↔ x ∈ l := List.mem_mergeSort
theorem compact_asc (l : List Int) (hs : l.Pairwise (· ≤ ·)) : (Lib.compact l).Pairwise (· < ·) ∧ ∀ x, x ∈ Lib.compact l ↔ x ∈ l := by
  have hget : ∀ i j, i ≤ j → j < l.length → l.toArray[i]! ≤ l.toArray[j]! := by
    intro i j hij hj
    rw [getElem!_pos l.toArray i (by simp; omega), getElem!_pos l.toArray j (by simpa using hj)]
    simp only [List.getElem_toArray]
    rcases Nat.eq_or_lt_of_le hij with h | h
    · subst h; omega
    · exact List.pairwise_iff_getElem.1 hs i j (by omega) hj h
  have key : ∀ m, m ≤ l.length → (Lib.compactUpTo l.toArray m).Pairwise (· < ·) ∧ ∀ x, x ∈ Lib.compactUpTo l.toArray m ↔ ∃ j, j < m ∧ l.toArray[j]! = x := by
    intro m
    induction m with
    | zero => intro _; simp [Lib.compactUpTo]
    | succ m ih =>
      intro hm
      obtain ⟨h1, h2⟩ := ih (by omega)
      have hsucc : Lib.compactUpTo l.toArray (m + 1) = Lib.compactUpTo l.toArray m ++ (if Lib.keeps l.toArray m = true then [l.toArray[m]!] else []) := by
        unfold Lib.compactUpTo
        rw [List.range_succ, List.filter_append, List.map_append]
        congr 1
        by_cases hk : Lib.keeps l.toArray m = true <;> simp [hk]
      rw [hsucc]
      by_cases hk : Lib.keeps l.toArray m = true
      · rw [if_pos hk]
        refine ⟨?_, fun x => ?_⟩
        · rw [List.pairwise_append]
          refine ⟨h1, by simp, fun a ha b hb => ?_⟩
          have hb := List.mem_singleton.1 hb
          subst hb
          obtain ⟨j, hj, rfl⟩ := (h2 a).1 ha
          have hle := hget j m (by omega) (by omega)
          have hk' : m = 0 ∨ l.toArray[m]! ≠ l.toArray[m - 1]! := by simpa [Lib.keeps] using hk
          rcases hk' with h0 | hne
          · omega
          · have ha := hget j (m - 1) (by omega) (by omega)
            have hb := hget (m - 1) m (by omega) (by omega)
            omega
        · rw [List.mem_append, h2]
          simp only [List.mem_singleton]
          constructor
          · rintro (⟨j, hj, rfl⟩ | rfl)
            · exact ⟨j, by omega, rfl⟩
            · exact ⟨m, by omega, rfl⟩
          · rintro ⟨j, hj, rfl⟩
            rcases Nat.lt_or_ge j m with h | h
            · exact .inl ⟨j, h, rfl⟩
            · have : j = m := by omega
              subst this; exact .inr rfl
      · rw [if_neg hk]
        simp only [List.append_nil]
        refine ⟨h1, fun x => ?_⟩
        rw [h2]
        have hk' : ¬ (m = 0 ∨ l.toArray[m]! ≠ l.toArray[m - 1]!) := by simpa [Lib.keeps] using hk
        have hm0 : m ≠ 0 := fun h => hk' (.inl h)
        have heq : l.toArray[m]! = l.toArray[m - 1]! := by
          by_cases h : l.toArray[m]! = l.toArray[m - 1]!
          · exact h
          · exact absurd (.inr h) hk'
        constructor
        · rintro ⟨j, hj, rfl⟩; exact ⟨j, by omega, rfl⟩
        · rintro ⟨j, hj, rfl⟩
          rcases Nat.lt_or_ge j m with h | h
          · exact ⟨j, h, rfl⟩
          · have : j = m := by omega
            subst this; exact ⟨j - 1, by omega, heq.symm⟩
  obtain ⟨h1, h2⟩ := key l.length (Nat.le_refl _)
  refine ⟨h1, fun x => ?_⟩
  show x ∈ Lib.compactUpTo l.toArray l.length ↔ _
  rw [h2, List.mem_iff_getElem]
  constructor
  · rintro ⟨j, hj, rfl⟩
    exact ⟨j, hj, by rw [getElem!_pos l.toArray j (by simpa using hj)]; simp⟩
  · rintro ⟨j, hj, rfl⟩
    exact ⟨j, hj, by rw [getElem!_pos l.toArray j (by simpa using hj)]; simp⟩
/-- sorted and compacted: the ascending list of what there is -/
theorem cs_eq {l : List Int} {n : Nat} {p : Int → Bool} (h : ∀ x, x ∈ l ↔ (0 ≤ x ∧ x < n) ∧ p x = true) : Lib.compact (sortI l) = (upto n).filter p := by
  obtain ⟨h1, h2⟩ := compact_asc (sortI l) (sortI_asc l)
  refine asc_ext _ _ h1 ((upto_asc n).filter _) fun x => ?_
  rw [h2, mem_sortI, h, List.mem_filter, mem_upto]

theorem chk_var {t : Term} (h : (chk t).2 = 0) (h2 : t.op = 2) : t.args = [] ∧ 0 ≤ t.n ∧ t.n < 20 := by
  obtain ⟨_, h1⟩ := chk_ok h
  rw [h1] at h
  have a1 : ¬ (t.op < 0 ∨ t.op > 13) := by omega
  have a2 : t.op = 0 ∨ t.op = 1 ∨ t.op = 2 := by omega
  simp only [node, if_neg a1, if_pos a2, leaf] at h
  split at h
  · simp at h
  · rename_i hl
    rw [if_neg (by omega), if_neg (by omega)] at h
    refine ⟨List.eq_nil_of_length_eq_zero (by omega), ?_⟩
    cases hv : varType t.n with
    | none => rw [hv] at h; simp at h
    | some k => unfold varType at hv; split at hv
                · simp at hv
                · omega
theorem mem_coll : ∀ (t : Term), (chk t).2 = 0 → ∀ (acc : List Int) (v : Int), v ∈ coll t acc ↔ v ∈ acc ∨ used t v = true := by
  refine Term.ind fun o n a ih h acc v => ?_
  have hk := (chk_ok h).1
  rw [coll_eq, used_eq]
  by_cases h2 : o = 2
  · obtain ⟨h3, _⟩ := chk_var h h2
    have h3 : a = [] := h3
    subst h3
    show v ∈ collL [] (if o = 2 then acc ++ [n] else acc) ↔ v ∈ acc ∨ (if o = 2 then decide (n = v) else usedL [] v) = true
    rw [if_pos h2, if_pos h2]
    simp [collL, eq_comm]
  · show v ∈ collL a (if o = 2 then acc ++ [n] else acc) ↔ v ∈ acc ∨ (if o = 2 then decide (n = v) else usedL a v) = true
    rw [if_neg h2, if_neg h2]
    have key : ∀ (l : List Term), (∀ x ∈ l, x ∈ a) → ∀ acc, v ∈ collL l acc ↔ v ∈ acc ∨ usedL l v = true := by
      intro l
      induction l with
      | nil => intro _ acc; simp [collL, usedL]
      | cons b l ihl =>
        intro hm acc
        have hb := hm b (by simp)
        rw [collL, ihl (fun x hx => hm x (by simp [hx])), ih b hb (hk b hb), usedL]
        cases used b v <;> simp
    exact key a (fun x hx => hx) acc
theorem used_range : ∀ (t : Term), (chk t).2 = 0 → ∀ v, used t v = true → 0 ≤ v ∧ v < 20 := by
  refine Term.ind fun o n a ih h v hu => ?_
  have hk := (chk_ok h).1
  rw [used_eq] at hu
  by_cases h2 : o = 2
  · obtain ⟨_, h4⟩ := chk_var h h2
    have hu : decide (n = v) = true := by
      have e : (if o = 2 then decide (n = v) else usedL a v) = true := hu
      rwa [if_pos h2] at e
    have hu : n = v := of_decide_eq_true hu
    subst hu; exact h4
  · have hu : usedL a v = true := by
      have e : (if o = 2 then decide (n = v) else usedL a v) = true := hu
      rwa [if_neg h2] at e
    have key : ∀ (l : List Term), (∀ x ∈ l, x ∈ a) → usedL l v = true → 0 ≤ v ∧ v < 20 := by
      intro l
      induction l with
      | nil => intro _ h; simp [usedL] at h
      | cons b l ihl =>
        intro hm h
        have hb := hm b (by simp)
        rw [usedL] at h
        cases hc : used b v
        · rw [hc] at h; exact ihl (fun x hx => hm x (by simp [hx])) (by simpa using h)
        · exact ih b hb (hk b hb) v hc
    exact key a (fun x hx => hx) hu
theorem checkT_ok {t : Term} (h : (checkT t).2 = 0) : checkT t = chk t ∧ 0 ≤ nodes t 60 8 := by
  unfold checkT at h ⊢
  split at h
  · simp at h
  · rename_i hn; rw [if_neg hn]; exact ⟨rfl, by omega⟩
theorem vars_eq (t : Term) : (if (checkT t).2 ≠ 0 then [] else Lib.compact (sortI (coll t []))) = varsT t := by
  unfold varsT
  split
  · rfl
  · rename_i h
    have h : (checkT t).2 = 0 := by simpa using h
    have hc := (checkT_ok h).1
    rw [hc] at h
    refine cs_eq fun x => ?_
    rw [mem_coll t h]
    constructor
    · rintro (hx | hx)
      · simp at hx
      · exact ⟨used_range t h x hx, hx⟩
    · rintro ⟨_, hx⟩; exact .inr hx
theorem varsT_mem {t : Term} {v : Int} (h : v ∈ varsT t) : 0 ≤ v ∧ v < 20 := by
  unfold varsT at h
  split at h
  · simp at h
  · rw [List.mem_filter, mem_upto] at h; exact h.1

/-! ### Uses, Blind -/
def usesO (o : Order) : List Int := (upto 20).filter fun v => o.rules.any fun r => hasI (varsT r.term) v
def plain (q : Int) : Bool := decide (q = 0 ∨ q = 6 ∨ q = 7)
def blindR (r : Rule) : Bool := plain r.ask && (varsT r.term).any fun v => decide (v ≥ 15)
def blindO (o : Order) : List Int := (upto 22).filter fun q => plain q && o.rules.any fun r => decide (r.ask = q) && (varsT r.term).any fun v => decide (v ≥ 15)
theorem mem_hasI (l : List Int) (v : Int) : hasI l v = true ↔ v ∈ l := by
  simp only [hasI, List.any_eq_true, decide_eq_true_eq]
  constructor
  · rintro ⟨x, h, rfl⟩; exact h
  · intro h; exact ⟨v, h, rfl⟩
theorem uses_eq (o : Order) : Lib.compact (sortI (o.rules.flatMap fun r => varsT r.term)) = usesO o := by
  refine cs_eq fun x => ?_
  simp only [List.mem_flatMap, List.any_eq_true, mem_hasI]
  constructor
  · rintro ⟨r, hr, hx⟩; exact ⟨varsT_mem hx, r, hr, hx⟩
  · rintro ⟨_, r, hr, hx⟩; exact ⟨r, hr, hx⟩
theorem blind_eq (o : Order) : Lib.compact (sortI ((o.rules.filter blindR).map (·.ask))) = blindO o := by
  refine cs_eq fun x => ?_
  simp only [List.mem_map, List.mem_filter, blindR, Bool.and_eq_true, List.any_eq_true, decide_eq_true_eq]
  constructor
  · rintro ⟨r, ⟨hr, hp, h⟩, rfl⟩
    refine ⟨?_, hp, r, hr, rfl, h⟩
    have : r.ask = 0 ∨ r.ask = 6 ∨ r.ask = 7 := by simpa [plain] using hp
    omega
  · rintro ⟨_, hp, r, hr, rfl, h⟩
    exact ⟨r, ⟨hr, hp, h⟩, rfl⟩
end Go.Abs

set_option maxRecDepth 100000
set_option maxHeartbeats 4000000
namespace Go.Abs
open Go.Proofs
theorem s35' (t : Term) : Spec Try.prog 35 [.agg (encT t)] (fun r => r = .k (.newl 3 1 none (ints (varsT t)))) := by
  have := s35 t
  rw [vars_eq] at this; exact this
theorem vars_le (t : Term) : (varsT t).length ≤ 20 := by
  unfold varsT
  split
  · simp
  · exact filter_le _ 20
theorem nlI_append (l m : List Int) : nlApp (nlI l) (ints m) = nlI (l ++ m) := by
  cases m with
  | nil => simp [ints, nlApp]
  | cons a m => simp [ints, nlApp, nlI]
theorem take_flat {l : List Rule} {i : Nat} (h : i < l.length) (g : Rule → List Int) : (l.take (i + 1)).flatMap g = (l.take i).flatMap g ++ g l[i] := by
  rw [List.take_succ_eq_append_getElem h, List.flatMap_append]; simp
theorem flat_le (l : List Rule) : ∀ i, ((l.take i).flatMap fun r => varsT r.term).length ≤ 20 * i := by
  intro i
  induction i with
  | zero => simp
  | succ i ih =>
    by_cases h : i < l.length
    · rw [take_flat h]
      have := vars_le l[i].term
      simp only [List.length_append]; omega
    · rw [List.take_of_length_le (by omega)]
      rw [List.take_of_length_le (by omega)] at ih; omega
theorem s25 (o : Order) (h60 : o.rules.length ≤ 60) : Spec Try.prog 25 [.agg (encOrder o)] (fun r => r = .k (.newl 3 1 none (ints (usesO o)))) := by
  refine Spec.of_awlS hf25 okf25 (by simp) fun S hS => ?_
  rw [← uses_eq] at hS
  simp only []
  rw [uf25l15]
  refine awl_loop (fun i : Nat => [(3, .k (.own 3)), (7, lst 4 (o.rules.map encRule)), (8, .int .i64 o.rules.length), (9, .int .i64 i)])
    (fun i => [(3, .arr 3 1 (nlI ((o.rules.take i).flatMap fun r => varsT r.term)) (ints ((o.rules.take i).flatMap fun r => varsT r.term)))]) (fun i => i ≤ o.rules.length) (fun i => o.rules.length - i) 0 rfl rfl (Nat.zero_le _) ?_
  intro i hi
  by_cases hlt : i < o.rules.length
  · have c1 : (i : Int) < o.rules.length := by omega
    have c4 : IntKind.i64.wrap ((i : Int) + 1) = (i : Int) + 1 := wrap_in (by omega) (by omega)
    have hle := flat_le o.rules i
    have hv := vars_le o.rules[i].term
    simp only [c1, map_at hlt]
    refine call_l (s35' o.rules[i].term) ?_
    simp only [c4]
    refine ⟨by omega, by omega, Next.intro (i + 1) rfl ?_ (by omega) (by omega)⟩
    rw [take_flat hlt, ← nlI_append, ← ints_append]; rfl
  · have c1 : ¬ (i : Int) < o.rules.length := by omega
    have hle := flat_le o.rules i
    obtain rfl : i = o.rules.length := by omega
    rw [List.take_length] at hle
    simp only [c1, List.take_length]
    refine call_sort (o.rules.flatMap fun r => varsT r.term) (s49 (by omega)) rfl ?_
    simp only []
    refine call_compact (sortI (o.rules.flatMap fun r => varsT r.term)) s50 rfl ?_
    simp only [intRows_norm]
    exact hS
theorem filt_take {l : List Rule} {i : Nat} (h : i < l.length) : ((l.take (i + 1)).filter blindR).map (·.ask) = if blindR l[i] = true then ((l.take i).filter blindR).map (·.ask) ++ [l[i].ask] else ((l.take i).filter blindR).map (·.ask) := by
  rw [List.take_succ_eq_append_getElem h, List.filter_append, List.map_append]
  by_cases hb : blindR l[i] = true <;> simp [hb]
theorem filt_le (l : List Rule) (i : Nat) : (((l.take i).filter blindR).map (·.ask)).length ≤ i := by
  rw [List.length_map]
  exact Nat.le_trans (List.length_filter_le _ _) (by simp; omega)
theorem s27 (o : Order) (h60 : o.rules.length ≤ 60) : Spec Try.prog 27 [.agg (encOrder o)] (fun r => r = .k (.newl 3 1 none (ints (blindO o)))) := by
  refine Spec.of_awlS hf27 okf27 (by simp) fun S hS => ?_
  rw [← blind_eq] at hS
  simp only []
  rw [uf27l20]
  refine awl_loop (fun i : Nat => [(3, .k (.own 3)), (8, lst 4 (o.rules.map encRule)), (9, .int .i64 o.rules.length), (10, .int .i64 i)])
    (fun i => [(3, .arr 3 1 (nlI (((o.rules.take i).filter blindR).map (·.ask))) (ints (((o.rules.take i).filter blindR).map (·.ask))))]) (fun i => i ≤ o.rules.length) (fun i => o.rules.length - i) 0 rfl rfl (Nat.zero_le _) ?_
  intro i hi
  by_cases hlt : i < o.rules.length
  · have c1 : (i : Int) < o.rules.length := by omega
    have c4 : IntKind.i64.wrap ((i : Int) + 1) = (i : Int) + 1 := wrap_in (by omega) (by omega)
    have hle := filt_le o.rules i
    rw [List.length_map] at hle
    have ht := filt_take hlt
    have hp : ∀ b, (varsT o.rules[i].term).any (fun v => decide (v ≥ 15)) = b → plain o.rules[i].ask = true → blindR o.rules[i] = b := by
      intro b h1 h2; rw [blindR, h2, h1]; rfl
    by_cases hq : o.rules[i].ask = 0 ∨ o.rules[i].ask = 6 ∨ o.rules[i].ask = 7
    · have hpl : plain o.rules[i].ask = true := by simpa [plain] using hq
      rcases hq with hq | hq | hq
      all_goals
        simp only [c1, map_at hlt, hq]
        refine call_l (s35' o.rules[i].term) ?_
        simp only []
        refine call_s (s52 (varsT o.rules[i].term)) ?_
        cases hb : (varsT o.rules[i].term).any (fun v => decide (v ≥ 15))
        · simp only [hb, c4]
          refine Next.intro (i + 1) rfl ?_ (by omega) (by omega)
          rw [ht, if_neg (by rw [hp false hb hpl]; simp)]; rfl
        · simp only [hb, c4, hq, nlI_app]
          refine ⟨by omega, by omega, Next.intro (i + 1) rfl ?_ (by omega) (by omega)⟩
          rw [ht, if_pos (hp true hb hpl), ints_snoc, nlI_snoc, hq]; rfl
    · have h1 : ¬ o.rules[i].ask = 0 := fun h => hq (.inl h)
      have h2 : ¬ o.rules[i].ask = 6 := fun h => hq (.inr (.inl h))
      have h3 : ¬ o.rules[i].ask = 7 := fun h => hq (.inr (.inr h))
      have hb : blindR o.rules[i] = false := by
        have : plain o.rules[i].ask = false := by simp [plain, h1, h2, h3]
        rw [blindR, this]; rfl
      simp only [c1, map_at hlt, h1, h2, h3, c4]
      refine Next.intro (i + 1) rfl ?_ (by omega) (by omega)
      rw [ht, if_neg (by simp [hb])]; rfl
  · have c1 : ¬ (i : Int) < o.rules.length := by omega
    have hle := filt_le o.rules i
    obtain rfl : i = o.rules.length := by omega
    rw [List.take_length] at hle
    simp only [c1, List.take_length]
    refine call_sort ((o.rules.filter blindR).map (·.ask)) (s49 (by omega)) rfl ?_
    simp only []
    refine call_compact (sortI ((o.rules.filter blindR).map (·.ask))) s50 rfl ?_
    simp only [intRows_norm]
    exact hS
def anyU (v : Int) (l : List Rule) : Bool := l.any fun r => hasI (varsT r.term) v
theorem anyU_drop {l : List Rule} {i : Nat} (h : i < l.length) (v : Int) : anyU v (l.drop i) = (hasI (varsT l[i].term) v || anyU v (l.drop (i + 1))) := by
  rw [List.drop_eq_getElem_cons h]; rfl
theorem s26 (o : Order) (h60 : o.rules.length ≤ 60) : Spec Try.prog 26 [.agg (encOrder o)] (fun r => r = .k (.newl 3 1 none (ints (usesO o)))) := by
  refine Spec.of_awlS hf26 okf26 (by simp) fun S hS => ?_
  simp only []
  rw [uf26l29]
  refine awl_loop (fun v : Nat => [(1, .k (.ptr 1 0)), (3, .k (.own 7)), (4, .int .i64 v)])
    (fun v => [(1, .var 25 (orV o)), (7, .arr 3 1 (some false) (ints ((upto v).filter fun v => anyU v o.rules)))]) (fun v => v ≤ 20) (fun v => 20 - v) 0 rfl rfl (Nat.zero_le _) ?_
  intro v hv
  by_cases hlv : v < 20
  · have d1 : (v : Int) < 20 := by omega
    have d4 : IntKind.i64.wrap ((v : Int) + 1) = (v : Int) + 1 := wrap_in (by omega) (by omega)
    simp only [d1]
    rw [uf26l16]
    refine awl_loop (fun x : Nat × Bool => [(1, .k (.ptr 1 0)), (3, .k (.own 7)), (4, .int .i64 v), (5, .bool x.2), (6, .int .i64 x.1)])
      (fun _ => [(1, .var 25 (orV o)), (7, .arr 3 1 (some false) (ints ((upto v).filter fun v => anyU v o.rules)))])
      (fun x => x.1 ≤ o.rules.length ∧ (x.2 || anyU v (o.rules.drop x.1)) = anyU v o.rules) (fun x => o.rules.length - x.1) (0, false) rfl rfl ⟨Nat.zero_le _, rfl⟩ ?_
    rintro ⟨i, is⟩ ⟨hi, hj⟩
    simp only [] at hi hj
    by_cases hlt : i < o.rules.length
    · have c1 : (i : Int) < o.rules.length := by omega
      have c4 : IntKind.i64.wrap ((i : Int) + 1) = (i : Int) + 1 := wrap_in (by omega) (by omega)
      rw [anyU_drop hlt] at hj
      cases is
      · simp only [c1, c4, map_at hlt]
        refine call_l (s36 o.rules[i].term) ?_
        simp only []
        refine call_s (s51 (varsT o.rules[i].term) v) ?_
        simp only [c4]
        exact Next.intro (i + 1, hasI (varsT o.rules[i].term) v) rfl rfl ⟨by simp only []; omega, by simpa using hj⟩ (by simp only []; omega)
      · simp only [c1, c4, map_at hlt]
        exact Next.intro (i + 1, true) rfl rfl ⟨by simp only []; omega, by simpa using hj⟩ (by simp only []; omega)
    · have c1 : ¬ (i : Int) < o.rules.length := by omega
      rw [List.drop_eq_nil_of_le (by omega)] at hj
      have hj : is = anyU v o.rules := by simpa [anyU] using hj
      have hu := upto_filter (fun v => anyU v o.rules) v
      have hle := filter_le (fun v => anyU v o.rules) v
      cases is
      · simp only [c1, d4]
        refine Next.intro (v + 1) rfl ?_ (by omega) (by omega)
        rw [hu, if_neg (by rw [← hj]; simp)]; rfl
      · simp only [c1, d4]
        refine ⟨by omega, by omega, Next.intro (v + 1) rfl ?_ (by omega) (by omega)⟩
        rw [hu, if_pos hj.symm, ints_snoc]; rfl
  · have d1 : ¬ (v : Int) < 20 := by omega
    obtain rfl : v = 20 := by omega
    simp only [d1]
    exact hS
end Go.Abs

set_option maxRecDepth 100000
namespace Go.Abs
open Go.Proofs
theorem s22 (a b : List Int) : Spec Try.prog 22 [lst 1 (ints a), lst 1 (ints b)] (fun r => r = .bool (decide (a = b))) := by
  refine Spec.of_len hf22 fun hlen => ?_
  have hla : a.length ≤ 9223372036854775807 := by have := hlen _ (List.mem_cons_self) (lstC 1 (ints a)) (by simp [lst, V.topC]) _ _ _ rfl; simpa [ints] using this
  clear hlen
  refine Spec.of_awl hf22 okf22 (by simp) ?_
  simp only [lst, lstC, ints_len]
  refine ⟨fun h => ?_, fun h => ?_⟩
  · have : a ≠ b := by rintro rfl; exact h rfl
    simp [this]
  · rw [uf22l15]
    have h : a.length = b.length := by omega
    refine awl_loop (fun i : Nat => [(0, lst 1 (ints a)), (1, lst 1 (ints b)), (5, .int .i64 i)]) (fun _ => []) (fun i => i ≤ a.length ∧ ∀ j < i, a[j]? = b[j]?) (fun i => a.length - i) 0 rfl rfl ⟨Nat.zero_le _, by simp⟩ ?_
    rintro i ⟨hi, hj⟩
    by_cases hlt : i < a.length
    · have hlt2 : i < b.length := by omega
      have c1 : (i : Int) < a.length := by omega
      have c2 : (i : Int) < b.length := by omega
      have hw : IntKind.i64.wrap ((i : Int) + 1) = (i : Int) + 1 := wrap_in (by omega) (by omega)
      simp only [lst, lstC, ints_len, ints_isEmpty, ints_at hlt, ints_at hlt2, sz_of hlt, sz_of hlt2, c1, c2, hw, not_true_eq_false]
      refine ⟨fun hne => ?_, fun he => ?_⟩
      · have : a ≠ b := by rintro rfl; exact hne rfl
        simp [this]
      · refine Next.intro (i + 1) rfl rfl ⟨by omega, fun j hjl => ?_⟩ (by omega)
        by_cases hji : j = i
        · subst hji; simp [hlt, hlt2, he]
        · exact hj j (by omega)
    · have c1 : ¬ (i : Int) < a.length := by omega
      simp only [lst, lstC, ints_len, ints_isEmpty, c1, not_true_eq_false, not_false_eq_true]
      have : a = b := by
        refine List.ext_getElem? fun j => ?_
        by_cases hjl : j < i
        · exact hj j hjl
        · rw [List.getElem?_eq_none (by omega), List.getElem?_eq_none (by omega)]
      simp [this]
end Go.Abs

set_option maxRecDepth 100000
set_option maxHeartbeats 4000000
namespace Go.Abs
open Go.Proofs
def oA : Order := ⟨[], false, [], [⟨0, .mk 2 7 []⟩, ⟨6, .mk 0 3 []⟩]⟩
def oB : Order := ⟨[], false, [], [⟨0, .mk 2 15 []⟩]⟩
def oC : Order := ⟨[], false, [], [⟨0, .mk 0 3 []⟩]⟩
theorem p1 : ordersO [oA, oC, oB] 0 = (1, 11) := by decide
theorem p2 : ordersO [oA, oB] 0 = (-1, 0) := by decide
theorem p3 : typeQ 6 = .tup [.int .i64 0, .bool true] := rfl
theorem p4 : checkO oA = 0 := by decide
theorem p5 : checkO oB = 0 := by decide
theorem p6 : checkO oC = 11 := by decide
theorem p7 : usesO oA = [7] := by decide
theorem p8 : usesO oB = [15] := by decide
theorem p9 : usesO oC = [] := by decide
theorem p10 : (gapsO oA).length = 20 := by decide
theorem p11 : (gapsO oB).length = 21 := by decide
theorem p12 : blindO oA = [] := by decide
theorem p13 : blindO oB = [0] := by decide
theorem s22' (l : List Int) : Spec Try.prog 22 [lst 1 (ints l), lst 1 (ints l)] (fun r => r = .bool true) := by
  have := s22 l l
  simpa using this
theorem s14 : Spec Try.prog 14 [] (fun r => r = .bool true) := by
  have c1 := s18 [oA, oC, oB]
  rw [p1] at c1
  have c2 := s18 [oA, oB]
  rw [p2] at c2
  have c3 := s16 6
  rw [p3] at c3
  have c4 := s20 oA
  rw [p4] at c4
  have c5 := s20 oB
  rw [p5] at c5
  have c6 := s20 oC
  rw [p6] at c6
  have c7 := s25 oA (by decide)
  rw [p7] at c7
  have c8 := s25 oB (by decide)
  rw [p8] at c8
  have c9 := s25 oC (by decide)
  rw [p9] at c9
  have c10 := s23 oA
  have c11 := s23 oB
  have c12 := s27 oA (by decide)
  rw [p12] at c12
  have c13 := s27 oB (by decide)
  rw [p13] at c13
  refine Spec.of_awlS hf14 okf14 (by simp) fun S hS => ?_
  simp only []
  refine call_s c1 ?_ (ha := by rfl)
  simp only [pairV]
  refine call_s c2 ?_ (ha := by rfl)
  simp only [pairV]
  refine call_s c3 ?_ (ha := by rfl)
  simp only []
  refine call_s c4 ?_ (ha := by rfl)
  simp only []
  refine call_s c5 ?_ (ha := by rfl)
  simp only []
  refine call_s c6 ?_ (ha := by rfl)
  simp only []
  refine call_l c7 ?_ (ha := by rfl)
  simp only []
  refine call_s (s22' [7]) ?_ (ha := by rfl)
  simp only []
  refine call_l c8 ?_ (ha := by rfl)
  simp only []
  refine call_s (s22' [15]) ?_ (ha := by rfl)
  simp only []
  refine call_l c9 ?_ (ha := by rfl)
  simp only [List.length_nil]
  refine call_l c10 ?_ (ha := by rfl)
  simp only [p10]
  refine call_l c11 ?_ (ha := by rfl)
  simp only [p11]
  refine call_l c12 ?_ (ha := by rfl)
  simp only [List.length_nil]
  refine call_l c13 ?_ (ha := by rfl)
  simp only []
  refine call_s (s22' [0]) ?_ (ha := by rfl)
  simp only []
  exact hS
end Go.Abs

set_option maxRecDepth 100000
set_option maxHeartbeats 4000000
namespace Go.Abs
open Go.Proofs
def ge15 (l : List Int) : Bool := l.any fun v => decide (v ≥ 15)
def anyB (q : Int) (l : List Rule) : Bool := l.any fun r => decide (r.ask = q) && ge15 (varsT r.term)
theorem ge15_drop {l : List Int} {i : Nat} (h : i < l.length) : ge15 (l.drop i) = (decide (l[i] ≥ 15) || ge15 (l.drop (i + 1))) := by
  rw [List.drop_eq_getElem_cons h]; rfl
theorem anyB_drop {l : List Rule} {i : Nat} (h : i < l.length) (q : Int) : anyB q (l.drop i) = ((decide (l[i].ask = q) && ge15 (varsT l[i].term)) || anyB q (l.drop (i + 1))) := by
  rw [List.drop_eq_getElem_cons h]; rfl
theorem s28 (o : Order) (h60 : o.rules.length ≤ 60) : Spec Try.prog 28 [.agg (encOrder o)] (fun r => r = .k (.newl 3 1 none (ints (blindO o)))) := by
  refine Spec.of_awlS hf28 okf28 (by simp) fun S hS => ?_
  simp only []
  rw [uf28l42]
  refine awl_loop (fun v : Nat => [(1, .k (.ptr 1 0)), (3, .k (.own 9)), (4, .int .i64 v)])
    (fun v => [(1, .var 25 (orV o)), (9, .arr 3 1 (some false) (ints ((upto v).filter fun q => plain q && anyB q o.rules)))]) (fun v => v ≤ 22) (fun v => 22 - v) 0 rfl rfl (Nat.zero_le _) ?_
  intro v hv
  by_cases hlv : v < 22
  · have d1 : (v : Int) < 22 := by omega
    have d4 : IntKind.i64.wrap ((v : Int) + 1) = (v : Int) + 1 := wrap_in (by omega) (by omega)
    simp only [d1]
    rw [uf28l29]
    refine awl_loop (fun x : Nat × Bool => [(1, .k (.ptr 1 0)), (3, .k (.own 9)), (4, .int .i64 v), (5, .bool x.2), (6, .int .i64 x.1)])
      (fun _ => [(1, .var 25 (orV o)), (9, .arr 3 1 (some false) (ints ((upto v).filter fun q => plain q && anyB q o.rules)))])
      (fun x => x.1 ≤ o.rules.length ∧ (x.2 || anyB v (o.rules.drop x.1)) = anyB v o.rules) (fun x => o.rules.length - x.1) (0, false) rfl rfl ⟨Nat.zero_le _, rfl⟩ ?_
    rintro ⟨i, is⟩ ⟨hi, hj⟩
    simp only [] at hi hj
    by_cases hlt : i < o.rules.length
    · have c1 : (i : Int) < o.rules.length := by omega
      have c4 : IntKind.i64.wrap ((i : Int) + 1) = (i : Int) + 1 := wrap_in (by omega) (by omega)
      rw [anyB_drop hlt] at hj
      simp only [c1, map_at hlt]
      refine call_l (s36 o.rules[i].term) ?_
      simp only []
      have hvl := vars_le o.rules[i].term
      generalize hl : varsT o.rules[i].term = l at *
      rw [uf28l17]
      refine awl_loop (fun x : Nat × Bool => [(1, .k (.ptr 1 0)), (3, .k (.own 9)), (4, .int .i64 v), (5, .bool x.2), (6, .int .i64 i), (7, .k (.own 27)), (8, .int .i64 x.1)])
        (fun _ => [(1, .var 25 (orV o)), (9, .arr 3 1 (some false) (ints ((upto v).filter fun q => plain q && anyB q o.rules))), (27, .arr 3 1 none (ints l))])
        (fun x => x.1 ≤ l.length ∧ (x.2 || (decide (o.rules[i].ask = v) && ge15 (l.drop x.1))) = (is || (decide (o.rules[i].ask = v) && ge15 l))) (fun x => l.length - x.1) (0, is) rfl rfl ⟨Nat.zero_le _, rfl⟩ ?_
      rintro ⟨k, is2⟩ ⟨hk, hj2⟩
      simp only [] at hk hj2
      by_cases hlk : k < l.length
      · have e1 : (k : Int) < l.length := by omega
        have e4 : IntKind.i64.wrap ((k : Int) + 1) = (k : Int) + 1 := wrap_in (by omega) (by omega)
        rw [ge15_drop hlk] at hj2
        cases is2
        · by_cases hq : o.rules[i].ask = v
          · by_cases h15 : l[k] ≥ 15
            · simp only [e1, e4, c1, map_at hlt, ints_at hlk, hq, h15]
              exact Next.intro (k + 1, true) rfl rfl ⟨by simp only []; omega, by simpa [hq, h15] using hj2⟩ (by simp only []; omega)
            · simp only [e1, e4, c1, map_at hlt, ints_at hlk, hq, h15]
              exact Next.intro (k + 1, false) rfl rfl ⟨by simp only []; omega, by simpa [hq, h15] using hj2⟩ (by simp only []; omega)
          · simp only [e1, e4, c1, map_at hlt, ints_at hlk, hq]
            exact Next.intro (k + 1, false) rfl rfl ⟨by simp only []; omega, by simpa [hq] using hj2⟩ (by simp only []; omega)
        · simp only [e1, e4]
          exact Next.intro (k + 1, true) rfl rfl ⟨by simp only []; omega, by simpa using hj2⟩ (by simp only []; omega)
      · have e1 : ¬ (k : Int) < l.length := by omega
        rw [List.drop_eq_nil_of_le (by omega)] at hj2
        have hj2 : is2 = (is || (decide (o.rules[i].ask = v) && ge15 l)) := by simpa [ge15] using hj2
        simp only [e1, c4]
        exact Next.intro (i + 1, is2) rfl rfl ⟨by simp only []; omega, by simp only []; rw [← hj, hj2, Bool.or_assoc]⟩ (by simp only []; omega)
    · have c1 : ¬ (i : Int) < o.rules.length := by omega
      rw [List.drop_eq_nil_of_le (by omega)] at hj
      have hj : is = anyB v o.rules := by simpa [anyB] using hj
      have hu := upto_filter (fun q => plain q && anyB q o.rules) v
      have hle := filter_le (fun q => plain q && anyB q o.rules) v
      cases is
      · simp only [c1, d4]
        refine Next.intro (v + 1) rfl ?_ (by omega) (by omega)
        rw [hu, if_neg (by rw [← hj]; simp)]; rfl
      · by_cases h0 : v = 0
        · subst h0
          have d5 : IntKind.i64.wrap 1 = 1 := rfl
          simp only [c1, d5]
          refine ⟨by omega, by omega, Next.intro (0 + 1) rfl ?_ (by omega) (by omega)⟩
          rw [hu, if_pos (by rw [← hj]; rfl), ints_snoc]; rfl
        by_cases h6 : v = 6
        · subst h6
          have d5 : IntKind.i64.wrap 7 = 7 := rfl
          simp only [c1, d5]
          refine ⟨by omega, by omega, Next.intro (6 + 1) rfl ?_ (by omega) (by omega)⟩
          rw [hu, if_pos (by rw [← hj]; rfl), ints_snoc]; rfl
        by_cases h7 : v = 7
        · subst h7
          have d5 : IntKind.i64.wrap 8 = 8 := rfl
          simp only [c1, d5]
          refine ⟨by omega, by omega, Next.intro (7 + 1) rfl ?_ (by omega) (by omega)⟩
          rw [hu, if_pos (by rw [← hj]; rfl), ints_snoc]; rfl
        · have g0 : ¬ (v : Int) = 0 := by omega
          have g6 : ¬ (v : Int) = 6 := by omega
          have g7 : ¬ (v : Int) = 7 := by omega
          have hpl : plain v = false := by simp only [plain, g0, g6, g7, or_self, decide_false]
          simp only [g0, g6, g7, c1, d4]
          refine Next.intro (v + 1) rfl ?_ (by omega) (by omega)
          rw [hu, if_neg (by rw [hpl]; simp)]; rfl
  · have d1 : ¬ (v : Int) < 22 := by omega
    obtain rfl : v = 22 := by omega
    simp only [d1]
    exact hS
end Go.Abs

set_option maxRecDepth 100000
set_option maxHeartbeats 4000000
namespace Go.Abs
open Go.Proofs
theorem fewO_60 {o : Order} (h : fewO o = true) : o.rules.length ≤ 60 := by
  unfold fewO at h
  split at h
  · simp at h
  · omega
theorem k3 (o other : Order) (q : Int) : Spec Try.prog 3 [.agg (encOrder o), .agg (encOrder other), .int .i64 q] (fun r => r = .bool true) := by
  refine Spec.of_awlS hf3 okf3 (by simp) fun S hS => ?_
  simp only []
  refine call_s s14 ?_
  simp only []
  refine call_s (s15 o) ?_
  cases h1 : fewO o
  · simp only [h1]
    exact hS
  simp only [h1]
  refine call_s (s15 other) ?_
  cases h2 : fewO other
  · simp only [h2]
    exact hS
  simp only [h2]
  have h60 := fewO_60 h1
  obtain ⟨a, b, hq⟩ : ∃ a b, typeQ q = .tup [.int .i64 a, .bool b] := by
    unfold typeQ
    split
    · exact ⟨_, _, rfl⟩
    · exact ⟨_, _, rfl⟩
  have c16 := s16 q
  have c17 := s17 q
  rw [hq] at c16 c17
  refine call_s c16 ?_
  simp only []
  refine call_s c17 ?_
  simp only []
  refine call_s (s18 [o, other]) ?_
  simp only [pairV]
  refine call_s (s19 [o, other]) ?_
  simp only [pairV]
  refine callQ_s (s20 o) ?_
  simp only []
  refine callQ_s (s21 o) ?_
  simp only []
  refine callQ_l (s23 o) ?_
  simp only []
  refine callQ_l (s24 o) ?_
  simp only []
  refine callQ_s (s22' (gapsO o)) ?_
  simp only []
  refine callQ_l (s25 o h60) ?_
  simp only []
  refine callQ_l (s26 o h60) ?_
  simp only []
  refine callQ_s (s22' (usesO o)) ?_
  simp only []
  refine callQ_l (s27 o h60) ?_
  simp only []
  refine callQ_l (s28 o h60) ?_
  simp only []
  refine callQ_s (s22' (blindO o)) ?_
  simp only []
  exact hS
end Go.Abs

/- CheckTells: for every order, every other order and every number the law returns true, and its arguments read as they did; no condition. -/
set_option maxRecDepth 100000
namespace Go.Proofs.Ytckobjgahmmkaaa
open Go.Abs Go.RowKit
theorem own : ownKnob Try.prog.godebug = none := by kernel_rfl
theorem kids : Kids Try.prog (· < Try.prog.types.size) := kids_rows (by kernel_rfl) (by kernel_rfl)
theorem full : ∀ t e, t < Try.prog.types.size → Try.prog.underlying t = some (.slice e) → 0 < Try.prog.cellsOf e := slices_full_of Try.prog (by kernel_rfl)
def plainTs : List TypeId := [3, 4, 9, 22, 23, 25, 39, 41, 43, 45]
theorem plainTs_ok : plainT Try.prog plainTs = true := by kernel_rfl
theorem plainTs_lt : ∀ t ∈ plainTs, t < Try.prog.types.size := by
  have : plainTs.all (fun t => decide (t < Try.prog.types.size)) = true := by kernel_rfl
  simpa using this
theorem tt : TermTypes Try.prog 3 4 9 41 39 43 23 45 22 25 where
  i := Try.underlying3
  b := Try.underlying4
  s := Try.underlying9
  t := ⟨_, Try.underlying41, rfl⟩
  lt := ⟨Try.underlying39, by kernel_rfl⟩
  r := ⟨_, Try.underlying43, rfl⟩
  lr := ⟨Try.underlying23, by kernel_rfl⟩
  c := ⟨_, Try.underlying45, rfl⟩
  lc := ⟨Try.underlying22, by kernel_rfl⟩
  o := ⟨_, Try.underlying25, rfl⟩
theorem spec3 (xs : List V) (h : ArgsOf Try.prog [25, 25, 3] xs) : Go.Abs.Spec Try.prog 3 xs (fun r => r = .bool true) := by
  match xs, h with
  | [a, b, c], ⟨⟨_, _, h1, e1⟩, ⟨_, _, h2, e2⟩, ⟨_, _, h3, e3⟩, _⟩ =>
    obtain ⟨o, ho⟩ := arg_order tt h1
    obtain ⟨o', ho'⟩ := arg_order tt h2
    obtain ⟨q, hq, _⟩ := arg_int tt.i h3
    rw [e1, e2, e3, ho, ho', hq]
    exact k3 o o' q
theorem lifted3 (os : Os) (started : os.Started) (H : Type) (enc : TypeId × Value → H) :
    ReturnsInHanded {} Try.checked os 3 .any (Rows.checkTellsSpec.pre6 enc Try.prog Try.f3 Rows.checkTellsRow.domain false) (Rows.checkTellsSpec.post enc Try.prog Try.f3 Rows.checkTellsRow.apart Rows.checkTellsRow.fresh Rows.checkTellsRow.handsOn Rows.checkTellsRow.again) := by
  refine law_lifted (C := Try.checked) (T := plainTs) (tb := 4) own started (by kernel_rfl) Try.func3 ?_ plainTs_ok plainTs_lt ?_ kids full rfl ?_ ?_ Try.underlying4 ?_
  · exact ChangeSpec.witness6 (enc := enc) (C := Try.checked) false ⟨#[], #[.agg #[.string ⟨#[]⟩, .bool false, .slice none 0 0, .slice none 0 0], .agg #[.string ⟨#[]⟩, .bool false, .slice none 0 0, .slice none 0 0], .int .i64 0], []⟩ 8 (by kernel_rfl) (by kernel_rfl) (by kernel_rfl) (by kernel_rfl)
  · rw [Try.params3]; decide
  · intro ds hds
    rw [Try.params3] at hds
    match ds, hds with
    | [a, b, c], _ => rfl
  · kernel_rfl
  · intro xs hxs
    rw [Try.params3] at hxs
    exact spec3 xs hxs
theorem CheckTells_holds : Rows.CheckTellsSaid :=
  OpenClaim.holds_of_wide 3 Try.f3 rfl rfl rfl rfl rfl rfl rfl ⟨rfl, rfl, rfl, rfl, rfl⟩ rfl rfl rfl rfl rfl (by kernel_rfl) Try.func3 (by kernel_rfl)
    (of_decide_eq_true (by kernel_rfl)) (by unfold Func.isWrapper; first | (rw [if_pos (by decide +kernel)]; kernel_rfl) | (rw [if_neg (by decide +kernel)]; exact ⟨rfl, rfl⟩))
    (fun os started H enc _ => lifted3 os started H enc)
end Go.Proofs.Ytckobjgahmmkaaa
