/- A part of the proof; the last text states what is proved. -/
import Derived.Test.YtckobjgahmmkaaaP4
import Derived.Test.YtckobjgahmmkaaaProg
/- From the reader's shapes to terms and orders. -/
namespace Go.Abs
section
variable {P : Program}
theorem shape_int {n : Nat} {t : TypeId} {r : List C} {k : IntKind} (hu : P.underlying t = some (.int k)) (h : Shape P n t r) : ∃ m : Int, r = [.int k m] ∧ (Lit.int k m).wf = true := by
  cases n with
  | zero => exact h.elim
  | succ n => simp only [Shape, hu] at h; exact h
theorem shape_bool {n : Nat} {t : TypeId} {r : List C} (hu : P.underlying t = some .bool) (h : Shape P n t r) : ∃ b : Bool, r = [.bool b] := by
  cases n with
  | zero => exact h.elim
  | succ n => simp only [Shape, hu] at h; exact h
theorem shape_str {n : Nat} {t : TypeId} {r : List C} (hu : P.underlying t = some .string) (h : Shape P n t r) : ∃ s : List UInt8, r = [.str s] ∧ s.length ≤ 9223372036854775807 := by
  cases n with
  | zero => exact h.elim
  | succ n => simp only [Shape, hu] at h; exact h
theorem shape_slice {n : Nat} {t e : TypeId} {r : List C} (hu : P.underlying t = some (.slice e)) (h : Shape P n t r) : ∃ m rows, n = m + 1 ∧ r = [lstC (P.cellsOf e) rows] ∧ rows.length ≤ 9223372036854775807 ∧ ∀ x ∈ rows, Shape P m e x := by
  cases n with
  | zero => exact h.elim
  | succ n => simp only [Shape, hu] at h; obtain ⟨rows, h1, h2, h3⟩ := h; exact ⟨n, rows, rfl, h1, h2, h3⟩
theorem shape_struct {n : Nat} {t : TypeId} {fs : Array Field} {r : List C} (hu : P.underlying t = some (.struct fs)) (h : Shape P n t r) : ∃ m rs, n = m + 1 ∧ r = rs.flatten ∧ ShapeL (Shape P m) (fs.toList.map (·.type)) rs := by
  cases n with
  | zero => exact h.elim
  | succ n => simp only [Shape, hu] at h; obtain ⟨rs, h1, h2⟩ := h; exact ⟨n, rs, rfl, h1, h2⟩
theorem shapeL2 {S : TypeId → List C → Prop} {a b : TypeId} {rs : List (List C)} (h : ShapeL S [a, b] rs) : ∃ x y, rs = [x, y] ∧ S a x ∧ S b y := by
  match rs, h with
  | [x, y], h => exact ⟨x, y, rfl, h.1, h.2.1⟩
theorem shapeL3 {S : TypeId → List C → Prop} {a b c : TypeId} {rs : List (List C)} (h : ShapeL S [a, b, c] rs) : ∃ x y z, rs = [x, y, z] ∧ S a x ∧ S b y ∧ S c z := by
  match rs, h with
  | [x, y, z], h => exact ⟨x, y, z, rfl, h.1, h.2.1, h.2.2.1⟩
theorem shapeL4 {S : TypeId → List C → Prop} {a b c d : TypeId} {rs : List (List C)} (h : ShapeL S [a, b, c, d] rs) : ∃ x y z u, rs = [x, y, z, u] ∧ S a x ∧ S b y ∧ S c z ∧ S d u := by
  match rs, h with
  | [x, y, z, u], h => exact ⟨x, y, z, u, rfl, h.1, h.2.1, h.2.2.1, h.2.2.2.1⟩
theorem rows_of {α : Type} {S : List C → Prop} (enc : α → List C) (hS : ∀ r, S r → ∃ a, r = enc a) : ∀ (rows : List (List C)), (∀ r ∈ rows, S r) → ∃ l : List α, rows = l.map enc
  | [], _ => ⟨[], rfl⟩
  | r :: rows, h => by
    obtain ⟨a, ha⟩ := hS r (h r (by simp))
    obtain ⟨l, hl⟩ := rows_of enc hS rows (fun x hx => h x (by simp [hx]))
    exact ⟨a :: l, by rw [ha, hl]; rfl⟩
/-- the types of terms and orders -/
structure TermTypes (P : Program) (tI tB tS tT tLT tR tLR tC tLC tO : TypeId) : Prop where
  i : P.underlying tI = some (.int .i64)
  b : P.underlying tB = some .bool
  s : P.underlying tS = some .string
  t : ∃ fs, P.underlying tT = some (.struct fs) ∧ fs.toList.map (·.type) = [tI, tI, tLT]
  lt : P.underlying tLT = some (.slice tT) ∧ P.cellsOf tT = 3
  r : ∃ fs, P.underlying tR = some (.struct fs) ∧ fs.toList.map (·.type) = [tI, tT]
  lr : P.underlying tLR = some (.slice tR) ∧ P.cellsOf tR = 4
  c : ∃ fs, P.underlying tC = some (.struct fs) ∧ fs.toList.map (·.type) = [tI, tI, tB]
  lc : P.underlying tLC = some (.slice tC) ∧ P.cellsOf tC = 3
  o : ∃ fs, P.underlying tO = some (.struct fs) ∧ fs.toList.map (·.type) = [tS, tB, tLC, tLR]
variable {tI tB tS tT tLT tR tLR tC tLC tO : TypeId}
theorem shape_term (h : TermTypes P tI tB tS tT tLT tR tLR tC tLC tO) : ∀ (n : Nat) (r : List C), Shape P n tT r → ∃ t : Term, r = encT t := by
  intro n
  induction n using Nat.strongRecOn with
  | ind n ih =>
    intro r hr
    obtain ⟨fs, hf, hl⟩ := h.t
    obtain ⟨m, rs, rfl, rfl, hs⟩ := shape_struct hf hr
    rw [hl] at hs
    obtain ⟨x, y, z, rfl, h1, h2, h3⟩ := shapeL3 hs
    obtain ⟨op, rfl, _⟩ := shape_int h.i h1
    obtain ⟨k, rfl, _⟩ := shape_int h.i h2
    obtain ⟨m', rows, rfl, rfl, _, h4⟩ := shape_slice h.lt.1 h3
    obtain ⟨l, rfl⟩ := rows_of encT (fun r hr => ih m' (by omega) r hr) rows h4
    exact ⟨.mk op k l, by rw [encT_eq, h.lt.2]; rfl⟩
theorem shape_rule (h : TermTypes P tI tB tS tT tLT tR tLR tC tLC tO) {n : Nat} {r : List C} (hr : Shape P n tR r) : ∃ x : Rule, r = encRule x := by
  obtain ⟨fs, hf, hl⟩ := h.r
  obtain ⟨m, rs, rfl, rfl, hs⟩ := shape_struct hf hr
  rw [hl] at hs
  obtain ⟨x, y, rfl, h1, h2⟩ := shapeL2 hs
  obtain ⟨a, rfl, _⟩ := shape_int h.i h1
  obtain ⟨t, rfl⟩ := shape_term h m y h2
  exact ⟨⟨a, t⟩, by simp [encRule]⟩
theorem shape_choice (h : TermTypes P tI tB tS tT tLT tR tLR tC tLC tO) {n : Nat} {r : List C} (hr : Shape P n tC r) : ∃ x : Choice, r = encChoice x := by
  obtain ⟨fs, hf, hl⟩ := h.c
  obtain ⟨m, rs, rfl, rfl, hs⟩ := shape_struct hf hr
  rw [hl] at hs
  obtain ⟨x, y, z, rfl, h1, h2, h3⟩ := shapeL3 hs
  obtain ⟨a, rfl, _⟩ := shape_int h.i h1
  obtain ⟨b, rfl, _⟩ := shape_int h.i h2
  obtain ⟨c, rfl⟩ := shape_bool h.b h3
  exact ⟨⟨a, b, c⟩, rfl⟩
theorem shape_order (h : TermTypes P tI tB tS tT tLT tR tLR tC tLC tO) {n : Nat} {r : List C} (hr : Shape P n tO r) : ∃ x : Order, r = encOrder x := by
  obtain ⟨fs, hf, hl⟩ := h.o
  obtain ⟨m, rs, rfl, rfl, hs⟩ := shape_struct hf hr
  rw [hl] at hs
  obtain ⟨x, y, z, u, rfl, h1, h2, h3, h4⟩ := shapeL4 hs
  obtain ⟨a, rfl, _⟩ := shape_str h.s h1
  obtain ⟨b, rfl⟩ := shape_bool h.b h2
  obtain ⟨_, rows, _, rfl, _, h5⟩ := shape_slice h.lc.1 h3
  obtain ⟨_, rows', _, rfl, _, h6⟩ := shape_slice h.lr.1 h4
  obtain ⟨l, rfl⟩ := rows_of encChoice (fun r hr => shape_choice h hr) rows h5
  obtain ⟨l', rfl⟩ := rows_of encRule (fun r hr => shape_rule h hr) rows' h6
  exact ⟨⟨a, b, l, l'⟩, by rw [h.lc.2, h.lr.2]; rfl⟩
theorem arg_order (h : TermTypes P tI tB tS tT tLT tR tLR tC tLC tO) {n : Nat} {r : List C} (hr : Shape P n tO r) : ∃ x : Order, argV P tO r = .agg (encOrder x) := by
  obtain ⟨x, rfl⟩ := shape_order h hr
  obtain ⟨fs, hf, _⟩ := h.o
  exact ⟨x, by simp only [argV, hf]⟩
theorem arg_term (h : TermTypes P tI tB tS tT tLT tR tLR tC tLC tO) {n : Nat} {r : List C} (hr : Shape P n tT r) : ∃ x : Term, argV P tT r = .agg (encT x) := by
  obtain ⟨x, rfl⟩ := shape_term h n r hr
  obtain ⟨fs, hf, _⟩ := h.t
  exact ⟨x, by simp only [argV, hf]⟩
theorem arg_int {n : Nat} {t : TypeId} {r : List C} {k : IntKind} (hu : P.underlying t = some (.int k)) (hr : Shape P n t r) : ∃ m : Int, argV P t r = .int k m ∧ (Lit.int k m).wf = true := by
  obtain ⟨m, rfl, h⟩ := shape_int hu hr
  exact ⟨m, by simp only [argV, hu], h⟩
end
end Go.Abs

/- The program's functions over terms, as plain functions; no program in sight. -/
namespace Go.Abs
def cut (n : Int) : Int := min (max n (-1099511627776)) 1099511627776
theorem cut_eq (n : Int) : cut n = n ↔ -1099511627776 ≤ n ∧ n ≤ 1099511627776 := by unfold cut; omega
def varType (v : Int) : Option Int := if v < 0 ∨ v > 19 then none else if v < 7 then some 0 else some 1
def varTypeV (v : Int) : V := .tup [.int .i64 ((varType v).getD 0), .bool (varType v).isSome]
def leaf (t : Term) : Int × Int :=
  if t.args.length > 0 then (0, 2) else if t.op = 0 then (if cut t.n ≠ t.n then (0, 3) else (0, 0)) else if t.op = 1 then (if t.n < 0 ∨ t.n > 1 then (0, 3) else (1, 0))
  else match varType t.n with | none => (0, 10) | some k => (k, 0)
def pairV (p : Int × Int) : V := .tup [.int .i64 p.1, .int .i64 p.2]
def arity (op : Int) : Int := if op = 0 ∨ op = 1 ∨ op = 2 then 0 else if op = 3 then 1 else if op = 6 then 3 else 2
mutual
def nodes : Term → Int → Int → Int
  | .mk _ _ a, k, lv => if lv < 1 then -1 else nodesL a (k - 1) (lv - 1)
def nodesL : List Term → Int → Int → Int
  | [], k, _ => k
  | t :: l, k, lv => if k < 0 then k else nodesL l (nodes t k lv) lv
end
theorem nodes_eq (t : Term) (k lv : Int) : nodes t k lv = if lv < 1 then -1 else nodesL t.args (k - 1) (lv - 1) := by cases t; simp [nodes, Term.args]
mutual
theorem nodes_bd : ∀ (t : Term) (k lv : Int), 0 ≤ k → -1 ≤ nodes t k lv ∧ nodes t k lv ≤ k
  | .mk _ _ a, k, lv, h => by
    simp only [nodes]
    split
    · omega
    · have := nodesL_bd a (k - 1) (lv - 1) (by omega); omega
theorem nodesL_bd : ∀ (l : List Term) (k lv : Int), -1 ≤ k → -1 ≤ nodesL l k lv ∧ nodesL l k lv ≤ k
  | [], k, lv, h => by simp [nodesL, h]
  | t :: l, k, lv, h => by
    simp only [nodesL]
    split
    · omega
    · have h1 := nodes_bd t k lv (by omega)
      have := nodesL_bd l (nodes t k lv) lv h1.1
      omega
end

theorem nodesL_drop {l : List Term} {i : Nat} (h : i < l.length) (k lv : Int) : nodesL (l.drop i) k lv = if k < 0 then k else nodesL (l.drop (i + 1)) (nodes l[i] k lv) lv := by
  rw [List.drop_eq_getElem_cons h, nodesL]
theorem nodesL_neg (l : List Term) (k lv : Int) (h : k < 0) : nodesL l k lv = k := by
  cases l <;> simp [nodesL, h]

theorem norm_T (t : Term) : C.normRow [C.int .i64 t.op, C.int .i64 t.n, C.list (if (List.map encT t.args).isEmpty = true then 0 else 3) none (List.map encT t.args)] = encT t := by
  have h := encT_norm t
  rw [encT_eq] at h
  exact h.trans (encT_eq t).symm
/-- term.measure -/
def measL (m : Term → Int) : List Term → Int → Int
  | [], n => n
  | a :: l, n => if n + m a > 60 then n + m a else measL m l (n + m a)
def meas : Nat → Term → Int
  | 0, _ => 61
  | f + 1, t => measL (meas f) t.args 1
theorem measL_bd {m : Term → Int} {M : Int} (hm : ∀ a, 1 ≤ m a ∧ m a ≤ M) (hM : 1 ≤ M) : ∀ (l : List Term) (n : Int), 1 ≤ n → n ≤ 60 → 1 ≤ measL m l n ∧ measL m l n ≤ 60 + M
  | [], n, h1, h2 => by simp only [measL]; omega
  | a :: l, n, h1, h2 => by
    simp only [measL]
    have := hm a
    split
    · omega
    · exact measL_bd hm hM l _ (by omega) (by omega)
theorem meas_bd : ∀ (f : Nat) (t : Term), 1 ≤ meas f t ∧ meas f t ≤ 61 + 60 * f
  | 0, t => by simp [meas]
  | f + 1, t => by
    have := measL_bd (m := meas f) (M := 61 + 60 * f) (meas_bd f) (by omega) t.args 1 (by omega) (by omega)
    simp only [meas]
    omega
theorem measL_drop {m : Term → Int} {l : List Term} {i : Nat} (h : i < l.length) (n : Int) : measL m (l.drop i) n = if n + m l[i] > 60 then n + m l[i] else measL m (l.drop (i + 1)) (n + m l[i]) := by
  rw [List.drop_eq_getElem_cons h, measL]
def shapeArgs (op : Int) : List Int := if op = 3 then [1] else if op = 4 ∨ op = 5 then [1, 1] else if op = 6 then [1, -1, -1] else if op = 7 then [0, 0] else if op = 8 then [-1, -1] else [0, 0]
def shapeRes (op : Int) : Int := if op = 3 then 1 else if op = 4 ∨ op = 5 then 1 else if op = 6 then -1 else if op = 7 then 1 else if op = 8 then 1 else 0
def shapeV (op : Int) : V := .agk [.newl 3 1 none (ints (shapeArgs op)), .c (.int .i64 (shapeRes op))]
/-- do the types fit the shape? the common type where one is asked for -/
def fit : List Int → List Int → Int → Option Int
  | [], _, c => some c
  | _, [], c => some c
  | w :: ws, ty :: tys, c =>
    let c' := if w = -1 ∧ c = -1 then ty else c
    if ty ≠ (if w = -1 then c' else w) then none else fit ws tys c'
def node (t : Term) (tys : List Int) : Int × Int :=
  if t.op < 0 ∨ t.op > 13 then (0, 1) else if t.op = 0 ∨ t.op = 1 ∨ t.op = 2 then leaf t
  else if tys.length ≠ (shapeArgs t.op).length ∨ t.n ≠ 0 then (0, 2)
  else match fit (shapeArgs t.op) tys (-1) with
    | none => (0, 11)
    | some c => if shapeRes t.op = -1 then (c, 0) else (shapeRes t.op, 0)
mutual
def chk : Term → Int × Int
  | .mk o n a => if (chkA a []).1 ≠ 0 then (0, (chkA a []).1) else node (.mk o n a) (chkA a []).2
def chkA : List Term → List Int → Int × List Int
  | [], ty => (0, ty)
  | t :: l, ty => if (chk t).2 ≠ 0 then ((chk t).2, []) else chkA l (ty ++ [(chk t).1])
end
theorem chk_eq (t : Term) : chk t = if (chkA t.args []).1 ≠ 0 then (0, (chkA t.args []).1) else node t (chkA t.args []).2 := by cases t; simp only [chk, Term.args]; rfl
theorem chkA_drop {l : List Term} {i : Nat} (h : i < l.length) (ty : List Int) : chkA (l.drop i) ty = if (chk l[i]).2 ≠ 0 then ((chk l[i]).2, []) else chkA (l.drop (i + 1)) (ty ++ [(chk l[i]).1]) := by
  rw [List.drop_eq_getElem_cons h, chkA]
/-- no node has more than 1000 arguments -/
def Narrow : Nat → Term → Prop
  | 0, _ => False
  | f + 1, t => t.args.length ≤ 1000 ∧ ∀ a ∈ t.args, Narrow f a
theorem set_at {l : List Int} {n : Nat} {x : Int} {i : Nat} (hl : l.length = i) (h : i < n) :
    (ints l ++ List.replicate (n - i) [C.int .i64 0]).set i [C.int .i64 x] = ints (l ++ [x]) ++ List.replicate (n - (i + 1)) [C.int .i64 0] := by
  obtain ⟨m, hm⟩ : ∃ m, n - i = m + 1 := ⟨n - i - 1, by omega⟩
  have hm2 : n - (i + 1) = m := by omega
  rw [hm, hm2, List.replicate_succ, List.set_append_right _ _ (by simp [ints, hl])]
  simp [ints, hl]
theorem fit_drop {ws tys : List Int} {j : Nat} (h1 : j < ws.length) (h2 : j < tys.length) (c : Int) : fit (ws.drop j) (tys.drop j) c =
    if tys[j] ≠ (if ws[j] = -1 then (if ws[j] = -1 ∧ c = -1 then tys[j] else c) else ws[j]) then none else fit (ws.drop (j + 1)) (tys.drop (j + 1)) (if ws[j] = -1 ∧ c = -1 then tys[j] else c) := by
  rw [List.drop_eq_getElem_cons h1, List.drop_eq_getElem_cons h2, fit]
theorem fit_end (ws tys : List Int) (c : Int) (h : ws = []) : fit ws tys c = some c := by subst h; cases tys <;> rfl
theorem shape_small (op : Int) : (shapeArgs op).length ≤ 3 := by unfold shapeArgs; (repeat' split) <;> simp
theorem len_args {t : Term} {P : Prop} (h : (∀ v, v ∈ [V.agg (encT t)] → ∀ c, c ∈ v.topC → ∀ sz nl rows, c = .list sz nl rows → rows.length ≤ 9223372036854775807)) : t.args.length ≤ 9223372036854775807 := by
  have := h _ List.mem_cons_self (lstC 3 (t.args.map encT)) (by rw [encT_eq]; simp [V.topC]) _ _ _ rfl
  simpa using this
end Go.Abs

/- The program's functions over terms, as plain functions (2): values, variables; and what is true of them. -/
namespace Go.Abs

theorem Term.ind {P : Term → Prop} (h : ∀ o n a, (∀ x ∈ a, P x) → P (.mk o n a)) : ∀ t, P t := by
  have key : ∀ k, ∀ t : Term, SizeOf.sizeOf t < k → P t := by
    intro k
    induction k with
    | zero => intro t ht; omega
    | succ k ih =>
      rintro ⟨o, n, a⟩ ht
      refine h o n a fun x hx => ih x ?_
      have := List.sizeOf_lt_of_mem hx
      simp at ht
      omega
  exact fun t => key _ t (Nat.lt_succ_self _)

/-! ### Check -/
/-- term.Check -/
def checkT (t : Term) : Int × Int := if nodes t 60 8 < 0 then (0, 6) else chk t
def few (t : Term) : Bool := decide (nodes t 100 20 ≥ 0)

theorem measL_ge {m : Term → Int} (hm : ∀ a, 1 ≤ m a) : ∀ (l : List Term) (n : Int), n ≤ measL m l n
  | [], n => by simp [measL]
  | b :: l, n => by
    have := hm b
    have := measL_ge hm l (n + m b)
    simp only [measL]; split <;> omega
theorem measL_big {m : Term → Int} (hm : ∀ a, 1 ≤ m a) : ∀ (l : List Term) (n : Int), n > 60 → l ≠ [] → measL m l n > 60
  | [], _, _, h => absurd rfl h
  | a :: l, n, h, _ => by
    simp only [measL]
    have := hm a
    split <;> omega

/-- the two ways of counting agree -/
theorem meas_nodes : ∀ (f : Nat),
    (∀ (t : Term) (c : Int), 0 ≤ c → c < 60 → (nodes t (60 - c) f < 0 ↔ c + meas f t > 60) ∧ (0 ≤ nodes t (60 - c) f → nodes t (60 - c) f = 60 - c - meas f t)) ∧
    (∀ (l : List Term) (c n : Int), 0 ≤ c → 1 ≤ n → c + n ≤ 60 → (nodesL l (60 - c - n) f < 0 ↔ c + measL (meas f) l n > 60) ∧ (0 ≤ nodesL l (60 - c - n) f → nodesL l (60 - c - n) f = 60 - c - measL (meas f) l n)) := by
  intro f
  induction f with
  | zero =>
    have h1 : ∀ (t : Term) (c : Int), 0 ≤ c → c < 60 → (nodes t (60 - c) ((0 : Nat) : Int) < 0 ↔ c + meas 0 t > 60) ∧ (0 ≤ nodes t (60 - c) ((0 : Nat) : Int) → nodes t (60 - c) ((0 : Nat) : Int) = 60 - c - meas 0 t) := by
      intro t c hc h60
      rw [nodes_eq, if_pos (by omega)]
      simp only [meas]
      omega
    refine ⟨h1, fun l => ?_⟩
    cases l with
    | nil =>
      intro c n hc hn h
      show (60 - c - n < 0 ↔ c + n > 60) ∧ (0 ≤ 60 - c - n → 60 - c - n = 60 - c - n)
      exact ⟨by omega, fun _ => rfl⟩
    | cons a l =>
      intro c n hc hn h
      have e1 : nodes a (60 - c - n) ((0 : Nat) : Int) = -1 := by rw [nodes_eq, if_pos (by omega)]
      have h0 : ¬ (60 - c - n < 0) := by omega
      have h6 : n + 61 > 60 := by omega
      simp only [nodesL, measL, meas, e1, if_neg h0, if_pos h6]
      rw [nodesL_neg _ _ _ (by omega)]
      omega
  | succ f ih =>
    have h1 : ∀ (t : Term) (c : Int), 0 ≤ c → c < 60 → (nodes t (60 - c) ((f + 1 : Nat) : Int) < 0 ↔ c + meas (f + 1) t > 60) ∧ (0 ≤ nodes t (60 - c) ((f + 1 : Nat) : Int) → nodes t (60 - c) ((f + 1 : Nat) : Int) = 60 - c - meas (f + 1) t) := by
      intro t c hc h60
      rw [nodes_eq, if_neg (by omega)]
      have := ih.2 t.args c 1 hc (by omega) (by omega)
      have e : ((f + 1 : Nat) : Int) - 1 = (f : Nat) := by omega
      rw [e]
      simp only [meas]
      exact this
    refine ⟨h1, fun l => ?_⟩
    induction l with
    | nil =>
      intro c n hc hn h
      show (60 - c - n < 0 ↔ c + n > 60) ∧ (0 ≤ 60 - c - n → 60 - c - n = 60 - c - n)
      exact ⟨by omega, fun _ => rfl⟩
    | cons a l ihl =>
      intro c n hc hn h
      simp only [nodesL, measL]
      rw [if_neg (by omega)]
      have hm := (meas_bd (f + 1) a).1
      by_cases hb : c + n = 60
      · have e0 : 60 - c - n = 0 := by omega
        have hn : nodes a (60 - c - n) ((f + 1 : Nat) : Int) < 0 := by
          have := (nodes_bd a (60 - c - n) ((f + 1 : Nat) : Int) (by omega))
          rw [nodes_eq, if_neg (by omega), nodesL_neg _ _ _ (by omega)]; omega
        rw [nodesL_neg _ _ _ hn]
        split
        · have := (nodes_bd a (60 - c - n) ((f + 1 : Nat) : Int) (by omega)).1; omega
        · have := measL_ge (m := meas (f + 1)) (fun a => (meas_bd (f + 1) a).1) l (n + meas (f + 1) a)
          have := (nodes_bd a (60 - c - n) ((f + 1 : Nat) : Int) (by omega)).1
          omega
      · obtain ⟨g1, g2⟩ := h1 a (c + n) (by omega) (by omega)
        have e1 : 60 - (c + n) = 60 - c - n := by omega
        rw [e1] at g1 g2
        by_cases hneg : nodes a (60 - c - n) ((f + 1 : Nat) : Int) < 0
        · rw [nodesL_neg _ _ _ hneg]
          have := g1.1 hneg
          split
          · omega
          · have := measL_ge (m := meas (f + 1)) (fun a => (meas_bd (f + 1) a).1) l (n + meas (f + 1) a)
            omega
        · have e2 := g2 (by omega)
          rw [e2]
          have hnb : ¬ (c + n + meas (f + 1) a > 60) := fun h => hneg (g1.2 h)
          rw [if_neg (by omega)]
          have := ihl c (n + meas (f + 1) a) hc (by omega) (by omega)
          have e3 : 60 - c - (n + meas (f + 1) a) = 60 - (c + n) - meas (f + 1) a := by omega
          rw [e3] at this
          have e4 : 60 - c - n - meas (f + 1) a = 60 - (c + n) - meas (f + 1) a := by omega
          rw [e4]; exact this

theorem meas_check (t : Term) : meas 8 t > 60 ↔ nodes t 60 8 < 0 := by
  have := ((meas_nodes 8).1 t 0 (by omega) (by omega)).1
  simp only [Int.sub_zero, Int.zero_add] at this
  exact this.symm

/-- few nodes: few arguments -/
theorem nodesL_len : ∀ (l : List Term) (k lv : Int), 0 ≤ nodesL l k lv → (l.length : Int) ≤ k
  | [], k, lv, h => by simpa [nodesL] using h
  | t :: l, k, lv, h => by
    simp only [nodesL] at h
    split at h
    · omega
    · have h1 := nodesL_len l _ lv h
      have h2 : nodes t k lv ≤ k - 1 := by
        rw [nodes_eq]
        split
        · omega
        · have := (nodesL_bd t.args (k - 1) (lv - 1) (by omega)).2; omega
      simp only [List.length_cons]
      omega
theorem nodesL_mem : ∀ (l : List Term) (k lv : Int), 0 ≤ nodesL l k lv → ∀ a ∈ l, ∃ k', k' ≤ k ∧ 0 ≤ nodes a k' lv
  | [], _, _, _, a, h => by simp at h
  | t :: l, k, lv, h, a, ha => by
    simp only [nodesL] at h
    split at h
    · omega
    · rcases List.mem_cons.1 ha with rfl | ha
      · refine ⟨k, Int.le_refl _, ?_⟩
        by_cases hn : nodes a k lv < 0
        · rw [nodesL_neg _ _ _ hn] at h; omega
        · omega
      · obtain ⟨k', h1, h2⟩ := nodesL_mem l _ lv h a ha
        have := (nodes_bd t k lv (by omega)).2
        exact ⟨k', by omega, h2⟩
theorem narrow_of : ∀ (f : Nat) (t : Term) (k : Int), k ≤ 1000 → 0 ≤ nodes t k f → Narrow f t
  | 0, t, k, _, h => by rw [nodes_eq] at h; simp at h
  | f + 1, t, k, hk, h => by
    rw [nodes_eq, if_neg (by omega)] at h
    have e : ((f + 1 : Nat) : Int) - 1 = (f : Nat) := by omega
    rw [e] at h
    have := nodesL_len _ _ _ h
    refine ⟨by omega, fun a ha => ?_⟩
    obtain ⟨k', h1, h2⟩ := nodesL_mem _ _ _ h a ha
    exact narrow_of f a k' (by omega) h2

/-! ### Variables -/
mutual
def used : Term → Int → Bool
  | .mk o n a, v => if o = 2 then decide (n = v) else usedL a v
def usedL : List Term → Int → Bool
  | [], _ => false
  | t :: l, v => if used t v = true then true else usedL l v
end
theorem used_eq (t : Term) (v : Int) : used t v = if t.op = 2 then decide (t.n = v) else usedL t.args v := by cases t; simp only [used, Term.op, Term.n, Term.args]; rfl
theorem usedL_drop {l : List Term} {i : Nat} (h : i < l.length) (v : Int) : usedL (l.drop i) v = if used l[i] v = true then true else usedL (l.drop (i + 1)) v := by
  rw [List.drop_eq_getElem_cons h, usedL]
mutual
def coll : Term → List Int → List Int
  | .mk o n a, acc => collL a (if o = 2 then acc ++ [n] else acc)
def collL : List Term → List Int → List Int
  | [], acc => acc
  | t :: l, acc => collL l (coll t acc)
end
theorem coll_eq (t : Term) (acc : List Int) : coll t acc = collL t.args (if t.op = 2 then acc ++ [t.n] else acc) := by cases t; simp only [coll, Term.op, Term.n, Term.args]; rfl
theorem collL_drop {l : List Term} {i : Nat} (h : i < l.length) (acc : List Int) : collL (l.drop i) acc = collL (l.drop (i + 1)) (coll l[i] acc) := by
  rw [List.drop_eq_getElem_cons h, collL]
def upto (n : Nat) : List Int := (List.range n).map fun (i : Nat) => (i : Int)
def varsT (t : Term) : List Int := if (checkT t).2 ≠ 0 then [] else (upto 20).filter (used t)

/-! ### Values -/
def valueC (v : Int) (cells : List Cell) : Cell :=
  if v < 0 ∨ v ≥ cells.length then ⟨false, 0⟩
  else if (cells.getD v.toNat ⟨false, 0⟩).known = false then ⟨false, 0⟩
  else if (varType v).getD 0 = 0 then ⟨true, cut (cells.getD v.toNat ⟨false, 0⟩).n⟩
  else if (cells.getD v.toNat ⟨false, 0⟩).n ≠ 0 then ⟨true, 1⟩ else ⟨true, 0⟩
def yes (b : Bool) : Cell := if b then ⟨true, 1⟩ else ⟨true, 0⟩
def logic (a b : Cell) (alone : Int) : Cell :=
  if a.known = true ∧ a.n = alone ∨ b.known = true ∧ b.n = alone then ⟨true, alone⟩
  else if a.known = true ∧ b.known = true then ⟨true, 1 - alone⟩ else ⟨false, 0⟩
def times (a b : Int) : Int := cut (a * b)
def number (op a b : Int) : Cell :=
  if op = 7 then yes (decide (a < b)) else if op = 8 then yes (decide (a = b)) else if op = 9 then ⟨true, cut (a + b)⟩ else if op = 10 then ⟨true, cut (a - b)⟩
  else if op = 11 then ⟨true, times a b⟩ else if op = 12 then ⟨true, min a b⟩ else ⟨true, max a b⟩
def evalN (op : Int) (l : List Cell) : Cell :=
  if op = 3 then (if (l.getD 0 ⟨false, 0⟩).known = false then ⟨false, 0⟩ else ⟨true, 1 - (l.getD 0 ⟨false, 0⟩).n⟩)
  else if op = 4 then logic (l.getD 0 ⟨false, 0⟩) (l.getD 1 ⟨false, 0⟩) 0
  else if op = 5 then logic (l.getD 0 ⟨false, 0⟩) (l.getD 1 ⟨false, 0⟩) 1
  else if op = 6 then
    (if (l.getD 0 ⟨false, 0⟩).known = true then l.getD (2 - (l.getD 0 ⟨false, 0⟩).n).toNat ⟨false, 0⟩
     else if (l.getD 1 ⟨false, 0⟩).known = true ∧ (l.getD 2 ⟨false, 0⟩).known = true ∧ (l.getD 1 ⟨false, 0⟩).n = (l.getD 2 ⟨false, 0⟩).n then l.getD 1 ⟨false, 0⟩ else ⟨false, 0⟩)
  else if (l.getD 0 ⟨false, 0⟩).known = false ∨ (l.getD 1 ⟨false, 0⟩).known = false then ⟨false, 0⟩
  else number op (l.getD 0 ⟨false, 0⟩).n (l.getD 1 ⟨false, 0⟩).n
mutual
def eval : Term → List Cell → Cell
  | .mk o n a, cells => if o = 0 ∨ o = 1 then ⟨true, n⟩ else if o = 2 then valueC n cells else evalN o (evalL a cells)
def evalL : List Term → List Cell → List Cell
  | [], _ => []
  | t :: l, cells => eval t cells :: evalL l cells
end
theorem evalL_map (cells : List Cell) : ∀ l, evalL l cells = l.map fun t => eval t cells
  | [] => rfl
  | t :: l => by simp [evalL, evalL_map cells l]
theorem eval_eq (t : Term) (cells : List Cell) : eval t cells = if t.op = 0 ∨ t.op = 1 then ⟨true, t.n⟩ else if t.op = 2 then valueC t.n cells else evalN t.op (t.args.map fun a => eval a cells) := by
  cases t; simp only [eval, evalL_map, Term.op, Term.n, Term.args]; rfl
def evalT (t : Term) (cells : List Cell) : Cell := if (checkT t).2 ≠ 0 then ⟨false, 0⟩ else eval t cells
end Go.Abs

/- Types of terms: 0 or 1; the two ways of typing a node agree. -/
namespace Go.Abs

theorem chkA_ok : ∀ (l : List Term) (ty : List Int), (chkA l ty).1 = 0 → (∀ a ∈ l, (chk a).2 = 0) ∧ (chkA l ty).2 = ty ++ l.map fun a => (chk a).1
  | [], ty, _ => by simp [chkA]
  | t :: l, ty, h => by
    simp only [chkA] at h ⊢
    split at h
    · rename_i hne; exact absurd h hne
    · rename_i he
      rw [if_neg he]
      obtain ⟨h1, h2⟩ := chkA_ok l _ h
      refine ⟨?_, by rw [h2]; simp⟩
      intro a ha
      rcases List.mem_cons.1 ha with rfl | ha
      · simpa using he
      · exact h1 a ha
theorem chkA_all (l : List Term) (h : ∀ a ∈ l, (chk a).2 = 0) : ∀ ty, chkA l ty = (0, ty ++ l.map fun a => (chk a).1) := by
  induction l with
  | nil => intro ty; simp [chkA]
  | cons t l ih =>
    intro ty
    rw [chkA, if_neg (by simp [h t (by simp)]), ih (fun a ha => h a (by simp [ha]))]
    simp
/-- a term without an error -/
theorem chk_ok {t : Term} (h : (chk t).2 = 0) : (∀ a ∈ t.args, (chk a).2 = 0) ∧ chk t = node t (t.args.map fun a => (chk a).1) := by
  rw [chk_eq] at h
  by_cases h0 : (chkA t.args []).1 = 0
  · obtain ⟨h1, h2⟩ := chkA_ok _ _ h0
    refine ⟨h1, ?_⟩
    rw [chk_eq, if_neg (by simp [h0]), h2]; simp
  · rw [if_pos h0] at h; exact absurd h h0

theorem leaf_ty (t : Term) : (leaf t).1 = 0 ∨ (leaf t).1 = 1 := by
  unfold leaf
  split
  · simp
  split
  · split <;> simp
  split
  · split <;> simp
  · cases h : varType t.n with
    | none => simp
    | some k => unfold varType at h; split at h <;> (try split at h) <;> simp_all
theorem varType_ty {v k : Int} (h : varType v = some k) : k = 0 ∨ k = 1 := by unfold varType at h; split at h <;> (try split at h) <;> simp_all

theorem shape_len {op : Int} (h : 3 ≤ op) : ((shapeArgs op).length : Int) = if op = 3 then 1 else if op = 6 then 3 else 2 := by
  unfold shapeArgs
  (repeat' split) <;> simp_all <;> omega

theorem node_ty {t : Term} {tys : List Int} (h : ∀ x ∈ tys, x = 0 ∨ x = 1) : (node t tys).1 = 0 ∨ (node t tys).1 = 1 := by
  unfold node
  split
  · simp
  split
  · exact leaf_ty t
  split
  · simp
  rename_i h1 h2 h3
  have hl : tys.length = (shapeArgs t.op).length := by
    by_cases hh : tys.length = (shapeArgs t.op).length
    · exact hh
    · exact absurd (Or.inl hh) h3
  split
  · simp
  · rename_i c hc
    split
    · rename_i hr
      have h6 : t.op = 6 := by
        unfold shapeRes at hr
        by_cases c6 : t.op = 6
        · exact c6
        · exfalso
          rw [if_neg c6] at hr
          (repeat' split at hr) <;> simp at hr
      rw [h6] at hl hc
      have h3 : tys.length = 3 := by rw [hl]; rfl
      match tys, h3 with
      | [a, b, d], _ =>
        have hb := h b (by simp)
        have ha := h a (by simp)
        have hd := h d (by simp)
        have e : shapeArgs 6 = [1, -1, -1] := rfl
        rw [e] at hc
        show c = 0 ∨ c = 1
        rcases ha with rfl | rfl <;> rcases hb with rfl | rfl <;> rcases hd with rfl | rfl <;> simp [fit] at hc <;> omega
    · rename_i hr
      show shapeRes t.op = 0 ∨ shapeRes t.op = 1
      unfold shapeRes at hr ⊢
      (repeat' split at hr) <;> (repeat' split) <;> first | omega | (exfalso; exact hr rfl)
theorem chk_ty : ∀ t : Term, (chk t).1 = 0 ∨ (chk t).1 = 1 := by
  refine Term.ind fun o n a ih => ?_
  rw [chk_eq]
  split
  · simp
  · rename_i h0
    have h0 : (chkA a []).1 = 0 := by simpa [Term.args] using h0
    obtain ⟨h1, h2⟩ := chkA_ok a [] h0
    show (node _ (chkA a []).2).1 = 0 ∨ (node _ (chkA a []).2).1 = 1
    rw [h2]
    refine node_ty ?_
    intro x hx
    simp at hx
    obtain ⟨b, hb, rfl⟩ := hx
    exact ih b hb
end Go.Abs

/- Orders: what check does, as plain functions. -/
namespace Go.Abs
def qtype (q : Int) : Int := if q = 6 ∨ q = 7 ∨ q = 10 ∨ q = 12 ∨ q = 13 ∨ q = 14 ∨ q = 15 ∨ q = 16 ∨ q = 20 ∨ q = 21 then 0 else 1
def typeQ (q : Int) : V := if q < 0 ∨ q ≥ 22 then .tup [.int .i64 0, .bool false] else .tup [.int .i64 (qtype q), .bool true]
def chs : List Choice → Int → Bool
  | [], _ => true
  | c :: l, last => if ¬ (last < c.ask ∧ c.ask < 22) ∨ c.by_ < 0 ∨ c.by_ ≥ 5 then false else chs l c.ask
def rls : List Rule → Int → Bool
  | [], _ => true
  | c :: l, last => if ¬ (last < c.ask ∧ c.ask < 22) then false else rls l c.ask
def tys : List Rule → Int
  | [] => 0
  | r :: l => if (checkT r.term).2 ≠ 0 then (checkT r.term).2 else if (checkT r.term).1 ≠ qtype r.ask then 11 else tys l
def checkO (o : Order) : Int := if chs o.choices (-1) = false then 1 else if rls o.rules (-1) = false then 1 else tys o.rules
def ordersO : List Order → Int → Int × Int
  | [], _ => (-1, 0)
  | o :: l, i => if checkO o ≠ 0 then (i, checkO o) else ordersO l (i + 1)
def fewR : List Rule → Bool
  | [] => true
  | r :: l => if few r.term = false then false else fewR l
def fewO (o : Order) : Bool := if o.choices.length > 60 ∨ o.rules.length > 60 then false else fewR o.rules
theorem chs_drop {l : List Choice} {i : Nat} (h : i < l.length) (last : Int) : chs (l.drop i) last = if ¬ (last < l[i].ask ∧ l[i].ask < 22) ∨ l[i].by_ < 0 ∨ l[i].by_ ≥ 5 then false else chs (l.drop (i + 1)) l[i].ask := by
  rw [List.drop_eq_getElem_cons h, chs]
theorem rls_drop {l : List Rule} {i : Nat} (h : i < l.length) (last : Int) : rls (l.drop i) last = if ¬ (last < l[i].ask ∧ l[i].ask < 22) then false else rls (l.drop (i + 1)) l[i].ask := by
  rw [List.drop_eq_getElem_cons h, rls]
theorem tys_drop {l : List Rule} {i : Nat} (h : i < l.length) : tys (l.drop i) = if (checkT l[i].term).2 ≠ 0 then (checkT l[i].term).2 else if (checkT l[i].term).1 ≠ qtype l[i].ask then 11 else tys (l.drop (i + 1)) := by
  rw [List.drop_eq_getElem_cons h, tys]
theorem ordersO_drop {l : List Order} {i : Nat} (h : i < l.length) (n : Int) : ordersO (l.drop i) n = if checkO l[i] ≠ 0 then (n, checkO l[i]) else ordersO (l.drop (i + 1)) (n + 1) := by
  rw [List.drop_eq_getElem_cons h, ordersO]
theorem fewR_drop {l : List Rule} {i : Nat} (h : i < l.length) : fewR (l.drop i) = if few l[i].term = false then false else fewR (l.drop (i + 1)) := by
  rw [List.drop_eq_getElem_cons h, fewR]
/-- index of the first rule for a question -/
def rix : List Rule → Int → Int → Int
  | [], _, _ => -1
  | r :: l, q, i => if r.ask = q then i else rix l q (i + 1)
theorem rix_drop {l : List Rule} {i : Nat} (h : i < l.length) (q n : Int) : rix (l.drop i) q n = if l[i].ask = q then n else rix (l.drop (i + 1)) q (n + 1) := by
  rw [List.drop_eq_getElem_cons h, rix]
def hasR (l : List Rule) (q : Int) : Bool := l.any fun r => decide (r.ask = q)
theorem rix_neg : ∀ (l : List Rule) (q i : Int), 0 ≤ i → (rix l q i < 0 ↔ hasR l q = false) ∧ (0 ≤ rix l q i ↔ hasR l q = true)
  | [], q, i, h => by simp [rix, hasR]
  | r :: l, q, i, h => by
    have := rix_neg l q (i + 1) (by omega)
    simp only [rix, hasR, List.any_cons] at this ⊢
    split
    · rename_i hr; simp [hr]; omega
    · rename_i hr; simpa [hr] using this
def hasI (l : List Int) (v : Int) : Bool := l.any fun x => decide (x = v)
theorem hasI_drop {l : List Int} {i : Nat} (h : i < l.length) (v : Int) : hasI (l.drop i) v = if l[i] = v then true else hasI (l.drop (i + 1)) v := by
  rw [List.drop_eq_getElem_cons h]
  simp only [hasI, List.any_cons]
  by_cases e : l[i] = v <;> simp [e]
/-- index of the first number for which p holds -/
def ixP (p : Int → Bool) : List Int → Int → Int
  | [], _ => -1
  | x :: l, i => if p x = true then i else ixP p l (i + 1)
theorem ixP_drop {p : Int → Bool} {l : List Int} {i : Nat} (h : i < l.length) (n : Int) : ixP p (l.drop i) n = if p l[i] = true then n else ixP p (l.drop (i + 1)) (n + 1) := by
  rw [List.drop_eq_getElem_cons h, ixP]
theorem ixP_any (p : Int → Bool) : ∀ (l : List Int) (i : Int), 0 ≤ i → (0 ≤ ixP p l i ↔ l.any p = true)
  | [], i, h => by simp [ixP]
  | x :: l, i, h => by
    have := ixP_any p l (i + 1) (by omega)
    simp only [ixP, List.any_cons]
    split
    · rename_i hr; simp [hr]; omega
    · rename_i hr; simpa [hr] using this
def gapsO (o : Order) : List Int := (upto 22).filter fun q => !(hasR o.rules q)
end Go.Abs

set_option maxRecDepth 100000
namespace Go.Abs
open Go.Proofs

theorem s45 (a b : Int) : Spec Try.prog 45 [.int .i64 a, .int .i64 b] (fun r => r = .bool (decide (a < b ∧ b < 22))) := by
  refine Spec.of_awl hf45 okf45 (by simp) ?_
  simp only [q_wpLs_eq_1, q_wpLs_eq_2, q_wpL_eq_1, q_putDL_eq_1, q_AOp_dst_eq_1, q_AOp_dst_eq_10, q_exL_eq_1, q_exL_eq_3, q_exL_eq_11, q_look_eq_1, q_look_eq_2, q_lookO_eq_1, q_insT_eq_1, q_awl_eq_2, q_awl_eq_5, q_awl_eq_10, q_AE_thenL_eq_1, q_initT_eq_1, q_initT_eq_2, q_putK_eq_1, q_vBin_eq_1, q_resV_eq_1, q_binV_eq_1, q_binInt_eq_3, q_cutInt_eq_8, q_cutInt_eq_10, q_vPick_eq_1, q_vPick_eq_3, q_mapT_eq_1, q_mapT_eq_2, q_mapO_eq_1, q_endK_eq_2, q_endL_eq_1, q_endV_eq_1, q_resL_eq_1, q_resL_eq_2, q_resX_eq_1, q_one_eq_1, q_V_nrm_eq_1, q_V_nrm_eq_5, q_K_nrm_eq_1, q_V_owns_eq_1, q_K_owns_eq_2, q_V_toNew_eq_1, q_K_toNew_eq_1, q_C_norm_eq_4, q_C_norm_eq_5, q_Bool_not_true, true_and, if_true, and_self, List.nodup_nil, Nat.reduceAdd, Nat.reduceBEq, Nat.zero_add, q_guardP_eq_1, q_condB_eq_1, q_condB_eq_2, q_exK_eq_1, condB_decide, lookT_here, lookT_next, uf45, uf45r1, uf45b2, uf45r3, uf45b4]
  refine ⟨fun h => ?_, fun h => ?_⟩
  · have : a < b := h
    simp [this]
  · have : ¬ a < b := h
    simp [this]

theorem s93 (a : Int) : Spec Try.prog 93 [.int .i64 a] (fun r => r = .int .i64 (cut a)) := by
  refine Spec.of_awl hf93 okf93 (by simp) ?_
  simp only [q_wpLs_eq_1, q_wpLs_eq_2, q_wpL_eq_1, q_exL_eq_1, q_exL_eq_34, q_look_eq_1, q_look_eq_2, q_lookO_eq_1, q_insT_eq_1, q_awl_eq_2, q_awl_eq_5, q_awl_eq_10, q_AE_thenL_eq_1, q_initT_eq_1, q_initT_eq_2, q_putK_eq_1, q_vInts_eq_1, q_vInts_eq_2, q_foldV_eq_1, q_vMinmax_eq_1, q_minmaxI_eq_1, q_mapT_eq_1, q_mapT_eq_2, q_mapO_eq_1, q_endK_eq_2, q_endL_eq_1, q_endV_eq_1, q_resL_eq_1, q_resL_eq_2, q_resX_eq_1, q_one_eq_1, q_V_nrm_eq_1, q_K_nrm_eq_1, q_V_owns_eq_1, q_K_owns_eq_2, q_V_toNew_eq_1, q_K_toNew_eq_1, q_C_norm_eq_4, q_Option_map_some, q_List_map_cons, q_List_map_nil, q_List_foldl_cons, q_List_foldl_nil, true_and, if_true, if_false, Bool.false_eq_true, and_self, Int.reduceNeg, List.nodup_nil, Nat.reduceBEq, Nat.zero_add, lookT_here, lookT_next, uf93, uf93r1, uf93b2, uf93r3, uf93b4]
  congr 3
  unfold cut
  split <;> split <;> omega

theorem s33 (a : Int) : Spec Try.prog 33 [.int .i64 a] (fun r => r = varTypeV a) := by
  refine Spec.of_awl hf33 okf33 (by simp) ?_
  simp only [q_wpLs_eq_1, q_wpLs_eq_2, q_wpL_eq_1, q_putDL_eq_1, q_AOp_dst_eq_1, q_AOp_dst_eq_10, q_exL_eq_1, q_exL_eq_3, q_exL_eq_11, q_look_eq_1, q_look_eq_2, q_lookO_eq_1, q_insT_eq_1, q_awl_eq_1, q_awl_eq_2, q_awl_eq_5, q_awl_eq_6, q_awl_eq_7, q_awl_eq_10, q_AE_thenL_eq_1, q_AE_thenL_eq_3, q_AE_inBlockL_eq_1, q_AE_inBlockL_eq_3, q_initT_eq_1, q_initT_eq_2, q_putK_eq_1, q_vBin_eq_1, q_resV_eq_1, q_binV_eq_1, q_binInt_eq_3, q_cutInt_eq_8, q_cutInt_eq_10, q_vPick_eq_1, q_vPick_eq_2, q_mapT_eq_1, q_mapT_eq_2, q_mapO_eq_1, q_endK_eq_2, q_endL_eq_1, q_endV_eq_1, q_resL_eq_1, q_resL_eq_2, q_resX_eq_1, q_one_eq_2, q_V_nrm_eq_1, q_V_nrm_eq_5, q_K_nrm_eq_1, q_V_owns_eq_1, q_V_owns_eq_3, q_K_owns_eq_2, q_V_ownsL_eq_1, q_V_ownsL_eq_2, q_V_toNew_eq_1, q_V_toNew_eq_4, q_K_toNew_eq_1, q_V_toNewL_eq_1, q_V_toNewL_eq_2, q_C_norm_eq_4, q_C_norm_eq_5, q_Bool_not_false, true_and, if_true, if_false, Bool.false_eq_true, and_self, List.append_nil, List.nodup_nil, Nat.reduceBEq, Nat.zero_add, q_learn_eq_1, q_guardP_eq_2, q_condK_eq_1, q_condB_eq_1, q_condB_eq_2, q_exK_eq_1, condB_decide, lookT_here, lookT_next, uf33, uf33r1, uf33b2, uf33r3, uf33b4, uf33r5, uf33b6, uf33b7, uf33r8, uf33b9, uf33b10, uf33r11, uf33b12, uf33b13, uf33b14, uf33r15, uf33b16]
  repeat' (first | with_reducible refine And.intro ?_ ?_ | with_reducible intro _)
  all_goals (simp only [varTypeV, varType]; (repeat' split) <;> simp_all <;> omega)

theorem s71 (t : Term) : Spec Try.prog 71 [.agg (encT t)] (fun r => r = pairV (leaf t)) := by
  refine Spec.of_awl hf71 okf71 (by simp) ?_
  simp only [encT_eq, lstC, map_len, q_wpLs_eq_1, q_wpLs_eq_2, q_wpLQs_eq_2, q_wpL_eq_1, q_wpLQ_eq_1, q_putDL_eq_1, q_AOp_dst_eq_8, q_AOp_dst_eq_10, q_AOp_dst_eq_20, q_exL_eq_1, q_exL_eq_3, q_exL_eq_5, q_exL_eq_8, q_exL_eq_11, q_exL_eq_21, q_exL_eq_28, q_exL_eq_30, q_exLQ_eq_9, q_exLQ_eq_22, q_exLQ_eq_29, q_look_eq_1, q_look_eq_2, q_insT_eq_1, q_insO_eq_1, q_awl_eq_1, q_awl_eq_2, q_awl_eq_3, q_awl_eq_5, q_awl_eq_6, q_awl_eq_7, q_awl_eq_10, q_AE_thenL_eq_1, q_AE_thenL_eq_3, q_AE_inBlockL_eq_1, q_AE_inBlockL_eq_3, q_initT_eq_1, q_initT_eq_2, q_putK_eq_1, q_vBin_eq_1, q_resV_eq_1, q_binV_eq_1, q_binInt_eq_3, q_cutInt_eq_6, q_cutInt_eq_8, q_cutInt_eq_10, q_vLen_eq_1, q_vFaddr_eq_1, q_loadO_eq_1, q_isV_eq_1, q_vLoad_eq_1, q_vPick_eq_1, q_vPick_eq_2, q_ofRow_eq_1, q_pureRow_eq_1, q_pureRow_eq_2, q_isVarO_eq_1, q_boxK_eq_1, q_mapT_eq_1, q_mapT_eq_2, q_mapO_eq_1, q_mapO_eq_2, q_freeB_eq_1, q_freeT_eq_1, q_freeT_eq_2, q_freeO_eq_1, q_V_noRef_eq_2, q_endK_eq_2, q_endL_eq_1, q_endV_eq_1, q_resL_eq_1, q_resL_eq_2, q_resX_eq_1, q_one_eq_2, q_V_nrm_eq_1, q_V_nrm_eq_2, q_V_nrm_eq_5, q_K_nrm_eq_1, q_K_nrm_eq_3, q_O_nrm_eq_1, q_V_owns_eq_1, q_V_owns_eq_3, q_K_owns_eq_2, q_V_ownsL_eq_1, q_V_ownsL_eq_2, q_V_toNew_eq_1, q_V_toNew_eq_4, q_K_toNew_eq_1, q_V_toNewL_eq_1, q_V_toNewL_eq_2, q_C_norm_eq_1, q_C_norm_eq_4, q_C_norm_eq_5, q_C_normRow_eq_1, q_C_normRow_eq_2, q_Bool_not_false, q_Option_map_some, q_List_map_cons, q_List_map_nil, q_List_take_succ_cons, q_List_take_zero, q_List_drop_succ_cons, q_List_drop_zero, q_List_length_cons, q_List_length_nil, true_and, if_true, if_false, Bool.false_eq_true, and_self, Bool.and_true, Bool.or_true, List.append_nil, List.nodup_nil, Nat.reduceAdd, Nat.reduceLeDiff, Nat.reduceBEq, Nat.zero_add, Nat.add_zero, Nat.le_refl, q_learn_eq_1, q_guardP_eq_2, q_condK_eq_1, q_condB_eq_1, q_condB_eq_2, q_exK_eq_1, condB_decide, condB_beq, normRows_T, List.length_map, lookT_here, lookT_next, lookO_here, uf71, uf71r9, uf71b10, uf71r16, uf71b17, uf71b18, uf71r19, uf71b20, uf71r21, uf71b22, uf71b23, uf71r24, uf71b25, uf71b26, uf71b27, uf71r28, uf71b29, uf71b30, uf71r31, uf71b32, uf71b33, uf71r34, uf71b35, uf71b36, uf71r37, uf71b38, uf71b39, uf71r40, uf71b41, uf71b42, uf71r43, uf71b44]
  repeat' (first | with_reducible refine And.intro ?_ ?_ | with_reducible intro _)
  all_goals first
    | (refine callQ_scalar (s93 t.n) rfl rfl rfl ?_
       simp only [q_wpLs_eq_1, q_wpLs_eq_2, q_wpLQs_eq_1, q_wpLQs_eq_2, q_wpL_eq_1, q_wpLQ_eq_1, q_exL_eq_1, q_exLQ_eq_9, q_exLQ_eq_12, q_exLQ_eq_22, q_look_eq_1, q_look_eq_2, q_insT_eq_1, q_awl_eq_1, q_awl_eq_2, q_awl_eq_5, q_awl_eq_6, q_awl_eq_10, q_AE_thenL_eq_1, q_AE_thenL_eq_3, q_AE_inBlockL_eq_3, q_putK_eq_1, q_vBin_eq_1, q_resV_eq_1, q_binV_eq_1, q_binInt_eq_3, q_cutInt_eq_7, q_vFaddr_eq_1, q_loadO_eq_1, q_isV_eq_1, q_vLoad_eq_1, q_ofRow_eq_1, q_pureRow_eq_1, q_pureRow_eq_2, q_isVarO_eq_1, q_mapT_eq_1, q_mapT_eq_2, q_mapO_eq_1, q_mapO_eq_2, q_endK_eq_2, q_endL_eq_1, q_endV_eq_1, q_resL_eq_1, q_resL_eq_2, q_resX_eq_1, q_one_eq_2, q_V_nrm_eq_1, q_V_nrm_eq_2, q_K_nrm_eq_1, q_K_nrm_eq_3, q_O_nrm_eq_1, q_V_owns_eq_1, q_V_owns_eq_3, q_K_owns_eq_2, q_V_ownsL_eq_1, q_V_ownsL_eq_2, q_V_toNew_eq_1, q_V_toNew_eq_4, q_K_toNew_eq_1, q_V_toNewL_eq_1, q_V_toNewL_eq_2, q_C_norm_eq_1, q_C_norm_eq_4, q_C_norm_eq_5, q_C_normRow_eq_1, q_C_normRow_eq_2, q_V_fz_eq_1, q_K_fz_eq_2, q_Option_map_some, q_List_map_cons, q_List_map_nil, q_List_take_succ_cons, q_List_take_zero, q_List_drop_succ_cons, q_List_drop_zero, q_List_length_cons, q_List_length_nil, true_and, if_true, if_false, Bool.false_eq_true, and_self, List.append_nil, List.nodup_nil, Nat.reduceAdd, Nat.reduceLeDiff, Nat.reduceBEq, Nat.zero_add, q_learn_eq_1, q_condK_eq_1, condB_bne, normRows_T, lookT_here, lookT_next, lookO_here, uf71r11, uf71b12, uf71r13, uf71b14, uf71b15]
       repeat' (first | with_reducible refine And.intro ?_ ?_ | with_reducible intro _)
       all_goals simp_all [leaf, pairV]
       done)
    | (refine call_scalar (s33 t.n) rfl rfl rfl ?_
       simp only [varTypeV, condB_iff, q_wpLs_eq_1, q_wpLs_eq_2, q_wpL_eq_1, q_exL_eq_1, q_exL_eq_15, q_exL_eq_27, q_look_eq_1, q_look_eq_2, q_insT_eq_1, q_awl_eq_1, q_awl_eq_2, q_awl_eq_5, q_awl_eq_6, q_awl_eq_10, q_AE_thenL_eq_1, q_AE_thenL_eq_3, q_putK_eq_1, q_vUn_eq_1, q_unV_eq_2, q_mapC_eq_1, q_vExtr_eq_1, q_mapT_eq_1, q_mapT_eq_2, q_mapO_eq_1, q_mapO_eq_2, q_endK_eq_2, q_endL_eq_1, q_endV_eq_1, q_resL_eq_1, q_resL_eq_2, q_resX_eq_1, q_one_eq_2, q_V_nrm_eq_1, q_V_nrm_eq_2, q_V_nrm_eq_4, q_K_nrm_eq_1, q_K_nrm_eq_3, q_V_nrmL_eq_1, q_V_nrmL_eq_2, q_O_nrm_eq_1, q_V_owns_eq_1, q_V_owns_eq_3, q_K_owns_eq_2, q_V_ownsL_eq_1, q_V_ownsL_eq_2, q_V_toNew_eq_1, q_V_toNew_eq_4, q_K_toNew_eq_1, q_V_toNewL_eq_1, q_V_toNewL_eq_2, q_C_norm_eq_1, q_C_norm_eq_4, q_C_norm_eq_5, q_C_normRow_eq_1, q_C_normRow_eq_2, q_List_map_cons, q_List_map_nil, q_List_getElemQ_cons_zero, q_List_getElemQ_cons_succ, true_and, and_self, Bool.not_eq_true', Bool.not_eq_false', List.append_nil, List.nodup_nil, Nat.reduceBEq, q_learn_eq_1, q_condK_eq_1, normRows_T, lookT_here, lookT_next, uf71r1, uf71b2, uf71r3, uf71b4, uf71b5, uf71r6, uf71b7, uf71b8]
       cases hv : varType t.n <;> simp_all [leaf, pairV]
       done)
    | (simp_all [leaf, pairV]; done)
    | (simp_all [leaf, pairV]; rw [if_neg (by omega)]; simp; done)
    | (simp_all [leaf, pairV]; rw [if_pos (by omega)]; simp; done)

/-! ### the reference's small functions -/
theorem s34 (a : Int) : Spec Try.prog 34 [.int .i64 a] (fun r => r = varTypeV a) := by
  refine Spec.of_awl hf34 okf34 (by simp) ?_
  simp only [q_wpLs_eq_1, q_wpLs_eq_2, q_wpL_eq_1, q_putDL_eq_1, q_AOp_dst_eq_1, q_AOp_dst_eq_10, q_exL_eq_1, q_exL_eq_3, q_exL_eq_11, q_look_eq_1, q_look_eq_2, q_lookO_eq_1, q_insT_eq_1, q_awl_eq_1, q_awl_eq_2, q_awl_eq_5, q_awl_eq_6, q_awl_eq_10, q_AE_thenL_eq_1, q_AE_thenL_eq_3, q_initT_eq_1, q_initT_eq_2, q_putK_eq_1, q_vBin_eq_1, q_resV_eq_1, q_binV_eq_1, q_binInt_eq_3, q_cutInt_eq_8, q_cutInt_eq_9, q_cutInt_eq_11, q_vPick_eq_1, q_vPick_eq_2, q_mapT_eq_1, q_mapT_eq_2, q_mapO_eq_1, q_endK_eq_2, q_endL_eq_1, q_endV_eq_1, q_resL_eq_1, q_resL_eq_2, q_resX_eq_1, q_one_eq_2, q_V_nrm_eq_1, q_V_nrm_eq_5, q_K_nrm_eq_1, q_V_owns_eq_1, q_V_owns_eq_3, q_K_owns_eq_2, q_V_ownsL_eq_1, q_V_ownsL_eq_2, q_V_toNew_eq_1, q_V_toNew_eq_4, q_K_toNew_eq_1, q_V_toNewL_eq_1, q_V_toNewL_eq_2, q_C_norm_eq_4, q_C_norm_eq_5, q_Bool_not_false, true_and, if_true, if_false, Bool.false_eq_true, and_self, List.append_nil, List.nodup_nil, Nat.reduceBEq, Nat.zero_add, q_learn_eq_1, q_guardP_eq_2, q_condK_eq_1, q_condB_eq_1, q_condB_eq_2, q_exK_eq_1, condB_decide, lookT_here, lookT_next, uf34, uf34r1, uf34b2, uf34r3, uf34b4, uf34b5, uf34r6, uf34b7, uf34b8, uf34r9, uf34b10, uf34b11, uf34r12, uf34b13, uf34b14, uf34r15, uf34b16]
  repeat' (first | with_reducible refine And.intro ?_ ?_ | with_reducible intro _)
  all_goals (simp only [varTypeV, varType]; (repeat' split) <;> simp_all <;> omega)
theorem s73 (a : Int) : Spec Try.prog 73 [.int .i64 a] (fun r => r = .int .i64 (arity a)) := by
  refine Spec.of_awl hf73 okf73 (by simp) ?_
  simp only [q_wpLs_eq_1, q_wpLs_eq_2, q_wpL_eq_1, q_exL_eq_1, q_exL_eq_11, q_look_eq_1, q_look_eq_2, q_lookO_eq_1, q_insT_eq_1, q_awl_eq_1, q_awl_eq_2, q_awl_eq_5, q_awl_eq_6, q_awl_eq_7, q_awl_eq_10, q_AE_thenL_eq_1, q_AE_thenL_eq_3, q_AE_inBlockL_eq_1, q_AE_inBlockL_eq_3, q_initT_eq_1, q_initT_eq_2, q_putK_eq_1, q_vBin_eq_1, q_resV_eq_1, q_binV_eq_1, q_binInt_eq_3, q_cutInt_eq_6, q_mapT_eq_1, q_mapT_eq_2, q_mapO_eq_1, q_endK_eq_2, q_endL_eq_1, q_endV_eq_1, q_resL_eq_1, q_resL_eq_2, q_resX_eq_1, q_one_eq_1, q_V_nrm_eq_1, q_K_nrm_eq_1, q_V_owns_eq_1, q_K_owns_eq_2, q_V_toNew_eq_1, q_K_toNew_eq_1, q_C_norm_eq_4, q_C_norm_eq_5, true_and, if_true, and_self, List.nodup_nil, Nat.reduceBEq, Nat.zero_add, q_learn_eq_1, q_condK_eq_1, q_condB_eq_1, condB_beq, lookT_here, lookT_next, uf73, uf73r1, uf73b2, uf73r3, uf73b4, uf73r5, uf73b6, uf73r7, uf73b8, uf73b9, uf73r10, uf73b11, uf73b12, uf73r13, uf73b14, uf73b15, uf73r16, uf73b17, uf73r18, uf73b19, uf73b20, uf73r21, uf73b22, uf73b23, uf73b24, uf73r25, uf73b26, uf73b27, uf73r28, uf73b29]
  repeat' (first | with_reducible refine And.intro ?_ ?_ | with_reducible intro _)
  all_goals (simp only [arity]; (repeat' split) <;> simp_all)
theorem s74 (t : Term) (h0 : t.args = []) (h1 : 0 ≤ t.op) (h2 : t.op ≤ 2) : Spec Try.prog 74 [.agg (encT t)] (fun r => r = pairV (leaf t)) := by
  refine Spec.of_awl hf74 okf74 (by simp) ?_
  simp only [encT_eq, lstC, map_len, q_wpLs_eq_1, q_wpLs_eq_2, q_wpL_eq_1, q_putDL_eq_1, q_AOp_dst_eq_8, q_AOp_dst_eq_10, q_AOp_dst_eq_20, q_exL_eq_1, q_exL_eq_3, q_exL_eq_5, q_exL_eq_8, q_exL_eq_11, q_exL_eq_21, q_exL_eq_28, q_look_eq_1, q_look_eq_2, q_insT_eq_1, q_insO_eq_1, q_awl_eq_1, q_awl_eq_2, q_awl_eq_5, q_awl_eq_6, q_awl_eq_10, q_AE_thenL_eq_1, q_AE_thenL_eq_3, q_initT_eq_1, q_initT_eq_2, q_putK_eq_1, q_vBin_eq_1, q_resV_eq_1, q_binV_eq_1, q_binInt_eq_3, q_cutInt_eq_6, q_cutInt_eq_7, q_cutInt_eq_8, q_cutInt_eq_10, q_vFaddr_eq_1, q_loadO_eq_1, q_isV_eq_1, q_vLoad_eq_1, q_vPick_eq_1, q_vPick_eq_2, q_vPick_eq_3, q_ofRow_eq_1, q_pureRow_eq_1, q_pureRow_eq_2, q_isVarO_eq_1, q_boxK_eq_1, q_mapT_eq_1, q_mapT_eq_2, q_mapO_eq_1, q_mapO_eq_2, q_freeB_eq_1, q_freeT_eq_1, q_freeT_eq_2, q_freeO_eq_1, q_V_noRef_eq_2, q_endK_eq_2, q_endL_eq_1, q_endV_eq_1, q_resL_eq_1, q_resL_eq_2, q_resX_eq_1, q_one_eq_2, q_V_nrm_eq_1, q_V_nrm_eq_2, q_V_nrm_eq_5, q_K_nrm_eq_1, q_K_nrm_eq_3, q_O_nrm_eq_1, q_V_owns_eq_1, q_V_owns_eq_3, q_K_owns_eq_2, q_V_ownsL_eq_1, q_V_ownsL_eq_2, q_V_toNew_eq_1, q_V_toNew_eq_4, q_K_toNew_eq_1, q_V_toNewL_eq_1, q_V_toNewL_eq_2, q_C_norm_eq_1, q_C_norm_eq_4, q_C_norm_eq_5, q_C_normRow_eq_1, q_C_normRow_eq_2, q_Bool_not_true, q_Bool_not_false, q_Option_map_some, q_List_map_cons, q_List_map_nil, q_List_take_succ_cons, q_List_take_zero, q_List_drop_succ_cons, q_List_drop_zero, q_List_length_cons, q_List_length_nil, true_and, if_true, if_false, Bool.false_eq_true, and_self, Bool.and_true, Bool.or_true, Int.reduceNeg, List.append_nil, List.nodup_nil, Nat.reduceAdd, Nat.reduceLeDiff, Nat.reduceBEq, Nat.zero_add, Nat.add_zero, q_learn_eq_1, q_guardP_eq_1, q_guardP_eq_2, q_condK_eq_1, q_condB_eq_1, q_condB_eq_2, q_exK_eq_1, condB_decide, condB_beq, condB_bne, normRows_T, lookT_here, lookT_next, lookO_here, uf74, uf74r9, uf74b10, uf74r11, uf74b12, uf74r13, uf74b14, uf74b15, uf74r16, uf74b17, uf74b18, uf74b19, uf74r20, uf74b21, uf74b22, uf74r23, uf74b24, uf74r25, uf74b26, uf74b27, uf74r28, uf74b29, uf74b30, uf74b31, uf74r32, uf74b33, uf74b34, uf74r35, uf74b36]
  repeat' (first | with_reducible refine And.intro ?_ ?_ | with_reducible intro _)
  all_goals first
    | (refine call_scalar (s34 t.n) rfl rfl rfl ?_
       simp only [varTypeV, condB_iff, q_wpLs_eq_1, q_wpLs_eq_2, q_wpL_eq_1, q_exL_eq_1, q_exL_eq_15, q_exL_eq_27, q_look_eq_1, q_look_eq_2, q_insT_eq_1, q_awl_eq_1, q_awl_eq_2, q_awl_eq_5, q_awl_eq_6, q_awl_eq_10, q_AE_thenL_eq_1, q_AE_thenL_eq_3, q_putK_eq_1, q_vUn_eq_1, q_unV_eq_2, q_mapC_eq_1, q_vExtr_eq_1, q_mapT_eq_1, q_mapT_eq_2, q_mapO_eq_1, q_mapO_eq_2, q_endK_eq_2, q_endL_eq_1, q_endV_eq_1, q_resL_eq_1, q_resL_eq_2, q_resX_eq_1, q_one_eq_2, q_V_nrm_eq_1, q_V_nrm_eq_2, q_V_nrm_eq_4, q_K_nrm_eq_1, q_K_nrm_eq_3, q_V_nrmL_eq_1, q_V_nrmL_eq_2, q_O_nrm_eq_1, q_V_owns_eq_1, q_V_owns_eq_3, q_K_owns_eq_2, q_V_ownsL_eq_1, q_V_ownsL_eq_2, q_V_toNew_eq_1, q_V_toNew_eq_4, q_K_toNew_eq_1, q_V_toNewL_eq_1, q_V_toNewL_eq_2, q_C_norm_eq_1, q_C_norm_eq_4, q_C_norm_eq_5, q_C_normRow_eq_1, q_C_normRow_eq_2, q_List_map_cons, q_List_map_nil, q_List_getElemQ_cons_zero, q_List_getElemQ_cons_succ, true_and, and_self, Bool.not_eq_true', Bool.not_eq_false', List.append_nil, List.nodup_nil, Nat.reduceBEq, q_learn_eq_1, q_condK_eq_1, normRows_T, lookT_here, lookT_next, uf74r1, uf74b2, uf74r3, uf74b4, uf74b5, uf74r6, uf74b7, uf74b8]
       cases hv : varType t.n <;> simp_all [leaf, pairV]
       done)
    | (simp_all [leaf, pairV, cut_eq]; done)
    | (simp_all [leaf, pairV, cut_eq]; rw [if_neg (by omega)]; simp; done)
    | (simp_all [leaf, pairV, cut_eq]; rw [if_pos (by omega)]; simp; done)
    | (exfalso; omega)
end Go.Abs

set_option maxRecDepth 100000
namespace Go.Abs
open Go.Proofs

theorem s58 : ∀ (lv : Nat) (t : Term) (k : Int), 0 ≤ k → k ≤ 1000000 → lv ≤ 1000000 → Spec Try.prog 58 [.agg (encT t), .int .i64 k, .int .i64 lv] (fun r => r = .int .i64 (nodes t k lv)) := by
  intro lv
  induction lv with
  | zero =>
    intro t k h1 h2 h3
    refine Spec.of_awl hf58 okf58 (by simp) ?_
    have hw : IntKind.i64.wrap (k - 1) = k - 1 := wrap_in (by omega) (by omega)
    have hl : ((0 : Nat) : Int) < 1 := by omega
    simp only [encT_eq, lstC, map_len, hw, hl, not_true_eq_false, q_wpLs_eq_1, q_wpLs_eq_2, q_wpL_eq_1, q_exL_eq_1, q_exL_eq_5, q_exL_eq_11, q_look_eq_1, q_look_eq_2, q_insT_eq_1, q_insO_eq_1, q_awl_eq_2, q_awl_eq_5, q_awl_eq_6, q_awl_eq_10, q_AE_thenL_eq_1, q_AE_thenL_eq_3, q_initT_eq_1, q_initT_eq_2, q_putK_eq_1, q_vBin_eq_1, q_resV_eq_1, q_binV_eq_1, q_binInt_eq_3, q_cutInt_eq_2, q_cutInt_eq_8, q_boxK_eq_1, q_mapT_eq_1, q_mapT_eq_2, q_mapO_eq_1, q_mapO_eq_2, q_freeB_eq_1, q_freeT_eq_1, q_freeT_eq_2, q_freeO_eq_1, q_V_noRef_eq_1, q_V_noRef_eq_2, q_K_noRef_eq_1, q_endK_eq_2, q_endL_eq_1, q_endV_eq_1, q_resL_eq_1, q_resL_eq_2, q_resX_eq_1, q_one_eq_1, q_V_nrm_eq_1, q_V_nrm_eq_2, q_K_nrm_eq_1, q_K_nrm_eq_3, q_O_nrm_eq_1, q_V_owns_eq_1, q_K_owns_eq_2, q_V_toNew_eq_1, q_K_toNew_eq_1, q_C_norm_eq_1, q_C_norm_eq_4, q_C_norm_eq_5, q_C_normRow_eq_1, q_C_normRow_eq_2, q_List_map_cons, q_List_map_nil, true_and, if_true, and_self, Bool.and_true, Bool.or_true, Int.reduceNeg, List.nodup_nil, Nat.reduceAdd, Nat.reduceBEq, Nat.zero_add, q_learn_eq_1, q_condK_eq_1, q_condB_eq_1, decide_true, normRows_T, lookT_here, lookT_next, Int.reduceLT, Int.cast_ofNat_Int, uf58, uf58r16, uf58b17, uf58b18, uf58r19, uf58b20, uf58b21, uf58r22, uf58b23, uf58r24, uf58b25]
    rw [nodes_eq]
    simp
  | succ lv ih =>
    intro t k h1 h2 h3
    refine Spec.of_len hf58 fun hlen => ?_
    replace hlen : t.args.length ≤ 9223372036854775807 := by
      have := hlen (.agg (encT t)) (by simp) (lstC 3 (t.args.map encT)) (by rw [encT_eq]; simp [V.topC]) _ _ _ rfl
      simpa using this
    refine Spec.of_awl hf58 okf58 (by simp) ?_
    have hw : IntKind.i64.wrap (k - 1) = k - 1 := wrap_in (by omega) (by omega)
    have hl : ¬ ((lv + 1 : Nat) : Int) < 1 := by omega
    simp only [encT_eq, lstC, map_len, hw, hl, not_true_eq_false, not_false_eq_true, q_wpLs_eq_1, q_wpLs_eq_2, q_wpL_eq_1, q_exL_eq_1, q_exL_eq_5, q_exL_eq_11, q_look_eq_1, q_look_eq_2, q_insT_eq_1, q_insO_eq_1, q_awl_eq_1, q_awl_eq_2, q_awl_eq_5, q_awl_eq_6, q_awl_eq_7, q_AE_thenL_eq_1, q_initT_eq_1, q_initT_eq_2, q_putK_eq_1, q_vBin_eq_1, q_resV_eq_1, q_binV_eq_1, q_binInt_eq_3, q_cutInt_eq_2, q_cutInt_eq_8, q_boxK_eq_1, q_freeB_eq_1, q_freeT_eq_1, q_freeT_eq_2, q_freeO_eq_1, q_V_noRef_eq_1, q_V_noRef_eq_2, q_K_noRef_eq_1, q_List_map_cons, q_List_map_nil, true_and, if_true, Bool.and_true, Bool.or_true, Nat.reduceAdd, Nat.reduceBEq, Nat.zero_add, q_learn_eq_1, q_condK_eq_1, q_condB_eq_2, decide_false, lookT_here, lookT_next, uf58, uf58b12, uf58r13, uf58b14, uf58b15, uf58b18, uf58r19, uf58b20, uf58b21, uf58r22, uf58b23, uf58r24, uf58b25]
    rw [uf58l11]
    refine awl_loop (fun x : Nat × Int => [(1, .int .i64 x.2), (2, .int .i64 ((lv + 1 : Nat) : Int)), (3, .k (.ptr 3 0)), (7, .int .i64 x.1)]) (fun _ => [(3, .var 41 ((encT t).map .c))])
      (fun x => x.1 ≤ t.args.length ∧ -1 ≤ x.2 ∧ x.2 ≤ 1000000 ∧ nodesL (t.args.drop x.1) x.2 lv = nodesL t.args (k - 1) lv) (fun x => t.args.length - x.1) (0, k - 1) rfl (by rw [encT_eq]; rfl) ⟨Nat.zero_le _, by simp only []; omega, by simp only []; omega, rfl⟩ ?_
    rintro ⟨i, n⟩ ⟨hi, hn1, hn2, hj⟩
    simp only [] at hi hn1 hn2 hj
    have hfin : nodes t k ((lv + 1 : Nat) : Int) = nodesL t.args (k - 1) lv := by
      rw [nodes_eq, if_neg hl]
      congr 1; omega
    by_cases hlt : i < t.args.length
    · have c1 : (i : Int) < t.args.length := by omega
      have c3 : IntKind.i64.wrap (((lv + 1 : Nat) : Int) - 1) = (lv : Int) := by rw [wrap_in (by omega) (by omega)]; omega
      have c4 : IntKind.i64.wrap ((i : Int) + 1) = (i : Int) + 1 := wrap_in (by omega) (by omega)
      simp only [encT_eq t, lstC, map_len, map_isEmpty, sz_of hlt, map_at hlt, encT_len, c1, c3, not_true_eq_false, q_wpLs_eq_1, q_wpLs_eq_2, q_wpL_eq_1, q_AOp_dst_eq_1, q_AOp_dst_eq_10, q_exL_eq_1, q_exL_eq_3, q_exL_eq_8, q_exL_eq_11, q_exL_eq_21, q_exL_eq_23, q_exL_eq_28, q_exL_eq_30, q_look_eq_1, q_look_eq_2, q_insT_eq_1, q_awl_eq_1, q_awl_eq_2, q_awl_eq_5, q_awl_eq_6, q_awl_eq_7, q_awl_eq_9, q_awl_eq_10, q_AE_thenL_eq_1, q_AE_thenL_eq_2, q_AE_inBlockL_eq_1, q_AE_inBlockL_eq_2, q_putK_eq_1, q_vBin_eq_1, q_resV_eq_1, q_binV_eq_1, q_binInt_eq_3, q_cutInt_eq_2, q_cutInt_eq_8, q_cutInt_eq_11, q_vLen_eq_1, q_vFaddr_eq_1, q_partV_eq_1, q_loadO_eq_1, q_isV_eq_1, q_vLoad_eq_1, q_vLoad_eq_2, q_vIaddr_eq_1, q_vPick_eq_1, q_ofRow_eq_1, q_pureRow_eq_1, q_pureRow_eq_2, q_isVarO_eq_1, q_mapT_eq_1, q_mapT_eq_2, q_mapO_eq_1, q_mapO_eq_2, q_endK_eq_2, q_endL_eq_1, q_endV_eq_1, q_resL_eq_1, q_resL_eq_2, q_resX_eq_1, q_one_eq_1, q_V_nrm_eq_1, q_K_nrm_eq_1, q_K_nrm_eq_3, q_O_nrm_eq_1, q_V_owns_eq_1, q_K_owns_eq_2, q_V_toNew_eq_1, q_K_toNew_eq_1, q_C_norm_eq_1, q_C_norm_eq_4, q_C_norm_eq_5, q_Bool_not_true, q_Option_map_some, q_List_map_cons, q_List_map_nil, q_List_take_succ_cons, q_List_take_zero, q_List_drop_succ_cons, q_List_drop_zero, q_List_length_cons, q_List_length_nil, true_and, if_true, if_false, Bool.false_eq_true, and_self, Int.reduceNeg, List.nodup_nil, Nat.reduceAdd, Nat.reduceBEq, Nat.zero_add, Int.toNat_natCast, Nat.le_refl, Int.natCast_nonneg, q_learn_eq_1, q_guardP_eq_1, q_condK_eq_1, q_condB_eq_1, q_exK_eq_1, condB_decide, decide_true, normRows_T, List.length_map, lookT_here, lookT_next, lookO_here, uf58r1, uf58b2, uf58r3, uf58r4, uf58b5, uf58b6, uf58b7, uf58r8, uf58b9, uf58b10]
      refine ⟨fun h5 => ?_, fun h5 => ?_⟩
      · have hb := nodes_bd t.args[i] n lv (by omega)
        refine call_scalar (ih t.args[i] n (by omega) (by omega) (by omega)) rfl (by simp [lendL, V.norm, C.norm, encT_norm]) rfl ?_
        simp only [c4, q_wpLs_eq_1, q_wpLs_eq_2, q_wpL_eq_1, q_exL_eq_1, q_exL_eq_11, q_look_eq_1, q_look_eq_2, q_insT_eq_1, q_awl_eq_2, q_AE_thenL_eq_1, q_putK_eq_1, q_vBin_eq_1, q_resV_eq_1, q_binV_eq_1, q_binInt_eq_3, q_cutInt_eq_1, true_and, if_true, Int.reduceNeg, Nat.reduceBEq, lookT_here, lookT_next]
        refine Next.intro (i + 1, nodes t.args[i] n lv) rfl rfl ⟨by simp only []; omega, by simp only []; omega, by simp only []; omega, ?_⟩ (by simp only []; omega)
        rw [← hj, nodesL_drop hlt, if_neg (by omega)]
      · rw [hfin, ← hj, nodesL_neg _ _ _ (by omega)]
    · have c1 : ¬ (i : Int) < t.args.length := by omega
      simp only [encT_eq, lstC, map_len, c1, not_true_eq_false, not_false_eq_true, q_wpLs_eq_1, q_wpLs_eq_2, q_wpL_eq_1, q_putDL_eq_1, q_AOp_dst_eq_1, q_AOp_dst_eq_10, q_exL_eq_1, q_exL_eq_3, q_exL_eq_8, q_exL_eq_11, q_exL_eq_21, q_exL_eq_30, q_look_eq_1, q_look_eq_2, q_insT_eq_1, q_awl_eq_2, q_awl_eq_5, q_awl_eq_6, q_awl_eq_9, q_awl_eq_10, q_AE_thenL_eq_1, q_AE_thenL_eq_2, q_AE_inBlockL_eq_2, q_putK_eq_1, q_vBin_eq_1, q_resV_eq_1, q_binV_eq_1, q_binInt_eq_3, q_cutInt_eq_8, q_vLen_eq_1, q_vFaddr_eq_1, q_loadO_eq_1, q_isV_eq_1, q_vLoad_eq_1, q_vPick_eq_3, q_ofRow_eq_1, q_pureRow_eq_1, q_pureRow_eq_2, q_isVarO_eq_1, q_mapT_eq_1, q_mapT_eq_2, q_mapO_eq_1, q_mapO_eq_2, q_endK_eq_2, q_endL_eq_1, q_endV_eq_1, q_resL_eq_1, q_resL_eq_2, q_resX_eq_1, q_one_eq_1, q_V_nrm_eq_1, q_V_nrm_eq_5, q_K_nrm_eq_1, q_K_nrm_eq_3, q_O_nrm_eq_1, q_V_owns_eq_1, q_K_owns_eq_2, q_V_toNew_eq_1, q_K_toNew_eq_1, q_C_norm_eq_1, q_C_norm_eq_4, q_C_norm_eq_5, q_Bool_not_true, q_Option_map_some, q_List_map_cons, q_List_map_nil, q_List_take_succ_cons, q_List_take_zero, q_List_drop_succ_cons, q_List_drop_zero, q_List_length_cons, q_List_length_nil, true_and, if_true, if_false, Bool.false_eq_true, and_self, Int.reduceNeg, List.nodup_nil, Nat.reduceAdd, Nat.reduceBEq, Nat.zero_add, Nat.le_refl, q_learn_eq_1, q_guardP_eq_1, q_condK_eq_1, q_condB_eq_2, decide_false, normRows_T, List.length_map, lookT_here, lookT_next, lookO_here, uf58r1, uf58b2, uf58b7, uf58r8, uf58b9, uf58b10]
      rw [hfin, ← hj, List.drop_eq_nil_of_le (by omega), nodesL]
end Go.Abs

set_option maxRecDepth 100000
namespace Go.Abs
open Go.Proofs
theorem s59 : ∀ (f : Nat) (t : Term), f ≤ 8 → Spec Try.prog 59 [.agg (encT t), .int .i64 (9 - (f : Int))] (fun r => r = .int .i64 (meas f t)) := by
  intro f
  induction f with
  | zero =>
    intro t hf
    refine Spec.of_awl hf59 okf59 (by simp) ?_
    have c1 : (9 : Int) - ((0 : Nat) : Int) > 8 := by omega
    simp only [encT_eq, lstC, map_len, c1, not_true_eq_false, q_wpLs_eq_1, q_wpLs_eq_2, q_wpL_eq_1, q_exL_eq_1, q_exL_eq_5, q_exL_eq_11, q_look_eq_1, q_look_eq_2, q_insT_eq_1, q_insO_eq_1, q_awl_eq_2, q_awl_eq_5, q_awl_eq_6, q_awl_eq_10, q_AE_thenL_eq_1, q_AE_thenL_eq_3, q_initT_eq_1, q_initT_eq_2, q_putK_eq_1, q_vBin_eq_1, q_resV_eq_1, q_binV_eq_1, q_binInt_eq_3, q_cutInt_eq_10, q_boxK_eq_1, q_mapT_eq_1, q_mapT_eq_2, q_mapO_eq_1, q_mapO_eq_2, q_freeB_eq_1, q_freeT_eq_1, q_freeT_eq_2, q_freeO_eq_1, q_V_noRef_eq_1, q_V_noRef_eq_2, q_K_noRef_eq_1, q_endK_eq_2, q_endL_eq_1, q_endV_eq_1, q_resL_eq_1, q_resL_eq_2, q_resX_eq_1, q_one_eq_1, q_V_nrm_eq_1, q_V_nrm_eq_2, q_K_nrm_eq_1, q_K_nrm_eq_3, q_O_nrm_eq_1, q_V_owns_eq_1, q_K_owns_eq_2, q_V_toNew_eq_1, q_K_toNew_eq_1, q_C_norm_eq_1, q_C_norm_eq_4, q_C_norm_eq_5, q_C_normRow_eq_1, q_C_normRow_eq_2, q_List_map_cons, q_List_map_nil, true_and, if_true, and_self, Bool.and_true, Bool.or_true, List.nodup_nil, Nat.reduceAdd, Nat.reduceBEq, Nat.zero_add, q_learn_eq_1, q_condK_eq_1, q_condB_eq_1, decide_true, normRows_T, lookT_here, lookT_next, Int.reduceGT, Int.reduceSub, Int.cast_ofNat_Int, uf59, uf59r24, uf59b25, uf59b26, uf59r27, uf59b28, uf59b29, uf59r30, uf59b31]
    rfl
  | succ f ih =>
    intro t hf
    refine Spec.of_len hf59 fun hlen => ?_
    replace hlen : t.args.length ≤ 9223372036854775807 := by
      have := hlen (.agg (encT t)) (by simp) (lstC 3 (t.args.map encT)) (by rw [encT_eq]; simp [V.topC]) _ _ _ rfl
      simpa using this
    refine Spec.of_awl hf59 okf59 (by simp) ?_
    have hl : ¬ ((9 : Int) - ((f + 1 : Nat) : Int)) > 8 := by omega
    simp only [encT_eq, lstC, map_len, hl, not_true_eq_false, not_false_eq_true, q_wpLs_eq_1, q_wpLs_eq_2, q_wpL_eq_1, q_exL_eq_1, q_exL_eq_5, q_exL_eq_8, q_exL_eq_11, q_exL_eq_21, q_exL_eq_30, q_look_eq_1, q_look_eq_2, q_insT_eq_1, q_insO_eq_1, q_awl_eq_1, q_awl_eq_2, q_awl_eq_5, q_awl_eq_6, q_awl_eq_7, q_AE_thenL_eq_1, q_initT_eq_1, q_initT_eq_2, q_putK_eq_1, q_vBin_eq_1, q_resV_eq_1, q_binV_eq_1, q_binInt_eq_3, q_cutInt_eq_10, q_vLen_eq_1, q_vFaddr_eq_1, q_loadO_eq_1, q_isV_eq_1, q_vLoad_eq_1, q_ofRow_eq_1, q_pureRow_eq_1, q_pureRow_eq_2, q_isVarO_eq_1, q_boxK_eq_1, q_freeB_eq_1, q_freeT_eq_1, q_freeT_eq_2, q_freeO_eq_1, q_V_noRef_eq_1, q_V_noRef_eq_2, q_K_noRef_eq_1, q_Option_map_some, q_List_map_cons, q_List_map_nil, q_List_take_succ_cons, q_List_take_zero, q_List_drop_succ_cons, q_List_drop_zero, q_List_length_cons, q_List_length_nil, true_and, if_true, if_false, Bool.false_eq_true, Bool.and_true, Bool.or_true, Nat.reduceAdd, Nat.reduceBEq, Nat.zero_add, Nat.le_refl, q_learn_eq_1, q_condK_eq_1, q_condB_eq_2, decide_false, List.length_map, lookT_here, lookT_next, lookO_here, uf59, uf59b18, uf59r19, uf59b20, uf59b21, uf59r22, uf59b23, uf59b26, uf59r27, uf59b28, uf59b29, uf59r30, uf59b31]
    rw [uf59l17]
    refine awl_loop (fun x : Nat × Int => [(1, .int .i64 (9 - ((f + 1 : Nat) : Int))), (5, .int .i64 x.2), (11, .k (.c (.list (if (List.map encT t.args).isEmpty = true then 0 else 3) none (List.map encT t.args)))), (12, .int .i64 (t.args.length : Int)), (13, .int .i64 x.1)]) (fun _ => [])
      (fun x => x.1 ≤ t.args.length ∧ 1 ≤ x.2 ∧ x.2 ≤ 60 ∧ measL (meas f) (t.args.drop x.1) x.2 = measL (meas f) t.args 1) (fun x => t.args.length - x.1) (0, 1) rfl rfl ⟨Nat.zero_le _, by simp only []; omega, by simp only []; omega, rfl⟩ ?_
    rintro ⟨i, n⟩ ⟨hi, hn1, hn2, hj⟩
    simp only [] at hi hn1 hn2 hj
    by_cases hlt : i < t.args.length
    · have c1 : (i : Int) < t.args.length := by omega
      have c3 : IntKind.i64.wrap (9 - ((f + 1 : Nat) : Int) + 1) = 9 - (f : Int) := by rw [wrap_in (by omega) (by omega)]; omega
      have c4 : IntKind.i64.wrap ((i : Int) + 1) = (i : Int) + 1 := wrap_in (by omega) (by omega)
      simp only [encT_eq, lstC, map_len, map_isEmpty, sz_of hlt, map_at hlt, c1, c3, not_true_eq_false, q_wpLs_eq_1, q_wpLs_eq_2, q_wpL_eq_1, q_exL_eq_1, q_exL_eq_4, q_exL_eq_8, q_exL_eq_9, q_exL_eq_11, q_exL_eq_23, q_exL_eq_28, q_look_eq_1, q_look_eq_2, q_lookO_eq_1, q_insT_eq_1, q_insO_eq_1, q_awl_eq_1, q_awl_eq_2, q_awl_eq_5, q_awl_eq_6, q_awl_eq_7, q_AE_thenL_eq_1, q_putK_eq_1, q_vBin_eq_1, q_resV_eq_1, q_binV_eq_1, q_binInt_eq_3, q_cutInt_eq_1, q_cutInt_eq_8, q_partV_eq_1, q_loadO_eq_1, q_isV_eq_1, q_vLoad_eq_1, q_vLoad_eq_2, q_vIaddr_eq_1, q_ofRow_eq_2, q_pureRow_eq_1, q_pureRow_eq_2, q_V_cells_eq_2, q_splice_eq_1, q_stVarK_eq_1, q_storeK_eq_1, q_freeB_eq_1, q_freeT_eq_1, q_freeT_eq_2, q_freeO_eq_1, q_V_noRef_eq_1, q_V_noRef_eq_2, q_K_noRef_eq_1, q_K_noRef_eq_5, q_Option_map_some, q_List_map_cons, q_List_map_nil, q_List_take_succ_cons, q_List_take_zero, q_List_drop_succ_cons, q_List_drop_zero, q_List_nil_append, q_List_length_cons, q_List_length_nil, true_and, if_true, and_self, Bool.and_true, Bool.or_true, List.append_nil, Nat.reduceAdd, Nat.reduceBEq, Nat.zero_add, Int.toNat_natCast, Nat.le_refl, Int.natCast_nonneg, q_learn_eq_1, q_condK_eq_1, q_condB_eq_1, decide_true, List.length_map, lookT_here, lookT_next, lookO_here, uf59r3, uf59r7, uf59b8, uf59r9, uf59b10, uf59b11, uf59b12, uf59b13, uf59b14, uf59r15, uf59b16]
      have hb := meas_bd f t.args[i]
      have c5 : IntKind.i64.wrap (n + meas f t.args[i]) = n + meas f t.args[i] := wrap_in (by omega) (by omega)
      refine call_scalar (ih t.args[i] (by omega)) rfl (by simp [lendL, V.norm, C.norm, ← norm_T, map_isEmpty]) rfl ?_
      simp only [c4, c5, q_wpLs_eq_1, q_wpLs_eq_2, q_wpL_eq_1, q_exL_eq_1, q_exL_eq_11, q_look_eq_1, q_look_eq_2, q_insT_eq_1, q_awl_eq_1, q_awl_eq_2, q_awl_eq_5, q_awl_eq_6, q_awl_eq_9, q_awl_eq_10, q_AE_thenL_eq_1, q_AE_thenL_eq_2, q_AE_inBlockL_eq_1, q_AE_inBlockL_eq_2, q_putK_eq_1, q_vBin_eq_1, q_resV_eq_1, q_binV_eq_1, q_binInt_eq_3, q_cutInt_eq_1, q_cutInt_eq_10, q_mapT_eq_1, q_mapT_eq_2, q_mapO_eq_1, q_mapO_eq_2, q_endK_eq_2, q_endL_eq_1, q_endV_eq_1, q_resL_eq_1, q_resL_eq_2, q_resX_eq_1, q_one_eq_1, q_V_nrm_eq_1, q_V_nrm_eq_2, q_K_nrm_eq_1, q_K_nrm_eq_2, q_K_nrm_eq_3, q_O_nrm_eq_1, q_V_owns_eq_1, q_K_owns_eq_2, q_V_toNew_eq_1, q_K_toNew_eq_1, q_C_norm_eq_1, q_C_norm_eq_4, q_C_norm_eq_5, q_C_normRow_eq_1, q_C_normRow_eq_2, q_C_normRows_eq_1, q_List_map_cons, q_List_map_nil, q_List_isEmpty_nil, true_and, if_true, if_false, and_self, List.nodup_nil, Nat.reduceBEq, Nat.zero_ne_one, q_learn_eq_1, q_condK_eq_1, condB_decide, normRows_T, lookT_here, lookT_next, uf59r1, uf59b2, uf59b4, uf59r5, uf59b6]
      refine ⟨fun h6 => ?_, fun h6 => ?_⟩
      · rw [meas, ← hj, measL_drop hlt, if_pos h6]
      · refine Next.intro (i + 1, n + meas f t.args[i]) rfl rfl ⟨by simp only []; omega, by simp only []; omega, by simp only []; omega, ?_⟩ (by simp only []; omega)
        rw [← hj, measL_drop hlt, if_neg h6]
    · have c1 : ¬ (i : Int) < t.args.length := by omega
      simp only [encT_eq, lstC, map_len, c1, not_true_eq_false, not_false_eq_true, q_wpLs_eq_1, q_wpLs_eq_2, q_wpL_eq_1, q_exL_eq_1, q_exL_eq_11, q_look_eq_1, q_lookO_eq_1, q_insT_eq_1, q_awl_eq_2, q_awl_eq_5, q_awl_eq_6, q_awl_eq_9, q_awl_eq_10, q_AE_thenL_eq_1, q_AE_thenL_eq_2, q_AE_inBlockL_eq_2, q_putK_eq_1, q_vBin_eq_1, q_resV_eq_1, q_binV_eq_1, q_binInt_eq_3, q_cutInt_eq_8, q_mapT_eq_1, q_mapT_eq_2, q_mapO_eq_1, q_endK_eq_2, q_endL_eq_1, q_endV_eq_1, q_resL_eq_1, q_resL_eq_2, q_resX_eq_1, q_one_eq_1, q_V_nrm_eq_1, q_K_nrm_eq_1, q_V_owns_eq_1, q_K_owns_eq_2, q_V_toNew_eq_1, q_K_toNew_eq_1, q_C_norm_eq_1, q_C_norm_eq_4, q_C_norm_eq_5, true_and, if_true, and_self, List.nodup_nil, Nat.reduceBEq, q_learn_eq_1, q_condK_eq_1, q_condB_eq_2, decide_false, normRows_T, lookT_here, lookT_next, uf59r1, uf59b2, uf59b13, uf59b14, uf59r15, uf59b16]
      rw [meas, ← hj, List.drop_eq_nil_of_le (by omega), measL]
end Go.Abs

set_option maxRecDepth 100000
namespace Go.Abs
open Go.Proofs
theorem s72 (op : Int) : Spec Try.prog 72 [.int .i64 op] (fun r => r = shapeV op) := by
  refine Spec.of_awl hf72 okf72 (by simp) ?_
  simp only [q_wpLs_eq_1, q_wpLs_eq_2, q_wpL_eq_1, q_exL_eq_1, q_exL_eq_4, q_exL_eq_6, q_exL_eq_7, q_exL_eq_9, q_exL_eq_11, q_look_eq_1, q_look_eq_2, q_insT_eq_1, q_insO_eq_1, q_awl_eq_1, q_awl_eq_2, q_awl_eq_5, q_awl_eq_6, q_awl_eq_7, q_awl_eq_10, q_AE_thenL_eq_1, q_AE_thenL_eq_3, q_AE_inBlockL_eq_1, q_AE_inBlockL_eq_3, q_initT_eq_1, q_initT_eq_2, q_putK_eq_1, q_vBin_eq_1, q_resV_eq_1, q_binV_eq_1, q_binInt_eq_3, q_cutInt_eq_6, q_vBuild_eq_1, q_vBuild_eq_2, q_rowV_eq_1, q_ofRow_eq_2, q_pureRow_eq_3, q_V_cells_eq_1, q_V_cells_eq_3, q_splice_eq_1, q_isArrO_eq_1, q_vRow_eq_1, q_vLits_eq_1, q_vLits_eq_2, q_bsK_eq_1, q_stVarK_eq_1, q_storeK_eq_1, q_mapT_eq_1, q_mapT_eq_2, q_mapO_eq_1, q_mapO_eq_2, q_freeB_eq_1, q_freeT_eq_1, q_freeT_eq_2, q_freeO_eq_1, q_freeO_eq_2, q_V_noRef_eq_1, q_K_noRef_eq_1, q_K_noRef_eq_3, q_O_noRef_eq_1, q_endK_eq_2, q_endL_eq_1, q_endV_eq_1, q_resL_eq_1, q_resL_eq_2, q_resX_eq_2, q_resCell_eq_1, q_one_eq_1, q_V_nrm_eq_1, q_V_nrm_eq_3, q_K_nrm_eq_1, q_K_nrm_eq_3, q_O_nrm_eq_1, q_O_nrm_eq_2, q_V_owns_eq_2, q_K_owns_eq_1, q_K_owns_eq_2, q_V_toNew_eq_3, q_K_toNew_eq_1, q_K_toNew_eq_2, q_C_norm_eq_1, q_C_norm_eq_4, q_C_norm_eq_5, q_C_normRow_eq_1, q_C_normRow_eq_2, q_C_normRows_eq_1, q_C_normRows_eq_2, q_List_map_cons, q_List_map_nil, q_List_take_succ_cons, q_List_take_zero, q_List_drop_succ_cons, q_List_drop_zero, q_List_nil_append, q_List_cons_append, q_List_foldl_cons, q_List_foldl_nil, q_List_replicate_succ, q_List_replicate_zero, q_List_set_cons_zero, q_List_set_cons_succ, q_List_length_cons, q_List_length_nil, q_List_flatMap_cons, q_List_flatMap_nil, q_List_all_cons, q_List_all_nil, q_List_isEmpty_nil, true_and, if_true, forall_eq_or_imp, forall_eq, or_false, and_self, bne_iff_ne, ne_eq, Bool.and_true, Bool.true_and, Bool.or_true, Bool.false_or, Int.reduceNeg, List.append_nil, List.mem_cons, List.nodup_nil, List.nodup_cons, Nat.reduceAdd, Nat.reduceEqDiff, Nat.reduceLeDiff, Nat.reduceLT, Nat.reduceBEq, Nat.zero_add, Nat.le_refl, q_learn_eq_1, not_false_eq_true, q_condK_eq_1, q_condB_eq_1, condB_beq, lookT_here, lookT_next, lookO_here, lookO_next, List.not_mem_nil, uf72, uf72r1, uf72b2, uf72r3, uf72b4, uf72r5, uf72b6, uf72r7, uf72b8, uf72r9, uf72b10, uf72r11, uf72b12, uf72b13, uf72r14, uf72b15, uf72b16, uf72r17, uf72b18, uf72b19, uf72r20, uf72b21, uf72b22, uf72r23, uf72b24, uf72r25, uf72b26, uf72b27, uf72b28, uf72r29, uf72b30, uf72b31, uf72r32, uf72b33, uf72b34, uf72r35, uf72b36]
  repeat' (first | apply And.intro | intro _)
  all_goals simp_all [shapeV, shapeArgs, shapeRes, ints]
end Go.Abs

set_option maxRecDepth 100000
set_option maxHeartbeats 4000000
namespace Go.Abs
open Go.Proofs
theorem s60 : ∀ (f : Nat) (t : Term), Narrow f t → Spec Try.prog 60 [.agg (encT t)] (fun r => r = pairV (chk t)) := by
  intro f
  induction f with
  | zero => intro t h; exact h.elim
  | succ f ih =>
    intro t hN
    refine Spec.of_awl hf60 okf60 (by simp) ?_
    have hlen : t.args.length ≤ 1000 := hN.1
    simp only [encT_eq t, q_wpLs_eq_1, q_wpLs_eq_2, q_wpL_eq_1, q_exL_eq_1, q_exL_eq_5, q_exL_eq_8, q_exL_eq_18, q_exL_eq_21, q_exL_eq_30, q_look_eq_1, q_look_eq_2, q_insT_eq_1, q_insO_eq_1, q_awl_eq_2, q_awl_eq_5, q_awl_eq_7, q_AE_thenL_eq_1, q_initT_eq_1, q_initT_eq_2, q_putK_eq_1, q_vFaddr_eq_1, q_loadO_eq_1, q_isV_eq_1, q_vLoad_eq_1, q_ofRow_eq_1, q_pureRow_eq_1, q_pureRow_eq_2, q_isVarO_eq_1, q_boxK_eq_1, q_mkslK_eq_1, q_freeB_eq_1, q_freeT_eq_1, q_freeT_eq_2, q_freeO_eq_1, q_freeO_eq_2, q_V_noRef_eq_1, q_V_noRef_eq_2, q_K_noRef_eq_1, q_K_noRef_eq_3, q_O_noRef_eq_1, q_Option_map_some, q_List_map_cons, q_List_map_nil, q_List_take_succ_cons, q_List_take_zero, q_List_drop_succ_cons, q_List_drop_zero, q_List_length_cons, q_List_length_nil, q_List_all_cons, q_List_all_nil, true_and, if_false, Bool.false_eq_true, and_self, bne_iff_ne, ne_eq, Bool.and_eq_true, Bool.and_true, Bool.true_and, Bool.or_true, Bool.false_or, Nat.reduceAdd, Nat.reduceEqDiff, Nat.reduceBEq, Nat.zero_add, Int.toNat_natCast, Nat.le_refl, Int.natCast_nonneg, not_false_eq_true, r_vLen_lst, List.length_map, lookT_here, lookT_next, Int.cast_ofNat_Int, lookO_here, lookO_next, uf60, uf60b79, uf60r80, uf60b81, uf60b82, uf60r83, uf60b84, uf60r85, uf60b86]
    refine ⟨by omega, by omega, by omega, ?_⟩
    rw [uf60l78]
    refine awl_loop (fun x : Nat × List Int => [(1, .k (.ptr 1 0)), (4, .k (.own 16)), (18, lst 3 (t.args.map encT)), (19, .int .i64 (t.args.length : Int)), (20, .int .i64 x.1)])
      (fun x => [(1, .var 41 [.c (.int .i64 t.op), .c (.int .i64 t.n), .c (lstC 3 (t.args.map encT))]), (16, .arr 3 1 (some false) (ints x.2 ++ List.replicate (t.args.length - x.1) [.int .i64 0]))])
      (fun x => x.1 ≤ t.args.length ∧ x.2.length = x.1 ∧ chkA (t.args.drop x.1) x.2 = chkA t.args []) (fun x => t.args.length - x.1) (0, []) rfl rfl ?_ ?_
    · exact ⟨Nat.zero_le _, rfl, rfl⟩
    rintro ⟨i, ty⟩ ⟨hi, hty, hj⟩
    simp only [] at hi hty hj
    by_cases hlt : i < t.args.length
    · have c1 : (i : Int) < t.args.length := by omega
      have c4 : IntKind.i64.wrap ((i : Int) + 1) = (i : Int) + 1 := wrap_in (by omega) (by omega)
      simp only [map_at hlt, encT_len, c1, q_wpLs_eq_1, q_wpLs_eq_2, q_wpL_eq_1, q_exL_eq_1, q_exL_eq_4, q_exL_eq_8, q_exL_eq_9, q_exL_eq_11, q_exL_eq_23, q_exL_eq_28, q_look_eq_1, q_insT_eq_1, q_insO_eq_1, q_awl_eq_1, q_awl_eq_2, q_awl_eq_5, q_awl_eq_6, q_awl_eq_7, q_AE_thenL_eq_1, q_putK_eq_1, q_vBin_eq_1, q_resV_eq_1, q_binV_eq_1, q_binInt_eq_3, q_cutInt_eq_8, q_partV_eq_1, q_loadO_eq_1, q_isV_eq_1, q_vLoad_eq_1, q_vLoad_eq_2, q_V_cells_eq_2, q_splice_eq_1, q_stVarK_eq_1, q_storeK_eq_1, q_freeB_eq_1, q_freeT_eq_1, q_freeT_eq_2, q_freeO_eq_1, q_freeO_eq_2, q_V_noRef_eq_1, q_V_noRef_eq_2, q_K_noRef_eq_1, q_K_noRef_eq_2, q_K_noRef_eq_3, q_K_noRef_eq_5, q_O_noRef_eq_1, q_O_noRef_eq_2, q_List_map_cons, q_List_map_nil, q_List_take_zero, q_List_drop_succ_cons, q_List_drop_zero, q_List_nil_append, q_List_length_cons, q_List_length_nil, q_List_all_cons, q_List_all_nil, true_and, if_true, and_self, bne_iff_ne, ne_eq, Bool.and_eq_true, Bool.and_true, Bool.true_and, Bool.or_true, Bool.false_or, List.append_nil, Nat.reduceAdd, Nat.reduceEqDiff, Nat.reduceBEq, Nat.zero_add, Int.toNat_natCast, Nat.le_refl, Int.natCast_nonneg, q_learn_eq_1, not_false_eq_true, q_condK_eq_1, q_condB_eq_1, decide_true, r_vIaddr_lst, List.length_map, r_ofRow_take, encT_len, lookT_here, lookT_next, lookO_here, uf60r60, uf60r68, uf60b69, uf60r70, uf60b71, uf60b72, uf60b73, uf60b74, uf60b75, uf60r76, uf60b77]
      refine call_s (ih t.args[i] (hN.2 _ (List.getElem_mem hlt))) ?_
      simp only [c4, pairV, q_wpLs_eq_1, q_wpLs_eq_2, q_wpL_eq_1, q_exL_eq_1, q_exL_eq_9, q_exL_eq_11, q_exL_eq_23, q_exL_eq_27, q_look_eq_1, q_look_eq_2, q_insT_eq_1, q_insO_eq_1, q_awl_eq_1, q_awl_eq_2, q_awl_eq_5, q_awl_eq_6, q_awl_eq_10, q_AE_thenL_eq_1, q_AE_thenL_eq_3, q_AE_inBlockL_eq_1, q_AE_inBlockL_eq_3, q_putK_eq_1, q_vBin_eq_1, q_resV_eq_1, q_binV_eq_1, q_binInt_eq_3, q_cutInt_eq_1, q_cutInt_eq_7, q_vExtr_eq_1, q_vIaddr_eq_2, q_idxO_eq_1, q_splice_eq_1, q_vRow_eq_1, q_stArrK_eq_1, q_storeK_eq_2, q_mapT_eq_1, q_mapT_eq_2, q_mapO_eq_1, q_mapO_eq_2, q_endK_eq_2, q_endL_eq_1, q_endV_eq_1, q_resL_eq_1, q_resL_eq_2, q_resX_eq_1, q_one_eq_2, q_V_nrm_eq_1, q_V_nrm_eq_2, q_V_nrm_eq_4, q_K_nrm_eq_1, q_K_nrm_eq_2, q_K_nrm_eq_3, q_V_nrmL_eq_1, q_V_nrmL_eq_2, q_O_nrm_eq_1, q_O_nrm_eq_2, q_V_owns_eq_1, q_V_owns_eq_3, q_K_owns_eq_2, q_V_ownsL_eq_1, q_V_ownsL_eq_2, q_V_toNew_eq_1, q_V_toNew_eq_4, q_K_toNew_eq_1, q_V_toNewL_eq_1, q_V_toNewL_eq_2, q_C_norm_eq_1, q_C_norm_eq_4, q_C_norm_eq_5, q_C_normRows_eq_1, q_List_map_cons, q_List_map_nil, q_List_take_zero, q_List_nil_append, q_List_cons_append, q_List_length_cons, q_List_length_nil, q_List_getElemQ_cons_zero, q_List_getElemQ_cons_succ, q_List_isEmpty_nil, true_and, and_true, if_true, and_self, List.append_nil, List.nodup_nil, Nat.reduceBEq, Nat.zero_add, Int.toNat_natCast, Nat.le_refl, Int.natCast_nonneg, q_learn_eq_1, q_condK_eq_1, condB_bne, norm_lst, normRows_T, encT_norm, lookT_here, lookT_next, lookO_here, lookO_next, r_map_nrm, uf60r61, uf60r62, uf60b63, uf60b64, uf60r65, uf60b66, uf60b67]
      refine ⟨fun h6 => ?_, fun h6 => ⟨?_, ?_⟩⟩
      · rw [chkA_drop hlt, if_pos h6] at hj
        rw [chk_eq t, ← hj]
        simp [h6]
      · simp [hty]; omega
      · refine Next.intro (i + 1, ty ++ [(chk t.args[i]).1]) rfl ?_ ⟨by simp only []; omega, by simp [hty], ?_⟩ (by simp only []; omega)
        · rw [set_at hty hlt]; rfl
        · rw [chkA_drop hlt, if_neg (by simp [h6])] at hj
          exact hj
    · have c1 : ¬ (i : Int) < t.args.length := by omega
      have hz : t.args.length - i = 0 := by omega
      simp only [c1, hz, List.replicate_zero, q_wpLs_eq_1, q_wpLs_eq_2, q_wpL_eq_1, q_putDL_eq_1, q_AOp_dst_eq_8, q_AOp_dst_eq_10, q_AOp_dst_eq_20, q_exL_eq_1, q_exL_eq_3, q_exL_eq_8, q_exL_eq_11, q_exL_eq_21, q_exL_eq_28, q_look_eq_1, q_look_eq_2, q_insT_eq_1, q_awl_eq_1, q_awl_eq_2, q_awl_eq_5, q_awl_eq_6, q_awl_eq_7, q_awl_eq_9, q_awl_eq_10, q_AE_thenL_eq_1, q_AE_thenL_eq_2, q_AE_thenL_eq_3, q_AE_inBlockL_eq_1, q_AE_inBlockL_eq_2, q_AE_inBlockL_eq_3, q_putK_eq_1, q_vBin_eq_1, q_resV_eq_1, q_binV_eq_1, q_binInt_eq_3, q_cutInt_eq_6, q_cutInt_eq_8, q_cutInt_eq_10, q_vFaddr_eq_1, q_loadO_eq_1, q_isV_eq_1, q_vLoad_eq_1, q_vPick_eq_1, q_vPick_eq_2, q_ofRow_eq_1, q_ofRow_eq_2, q_pureRow_eq_1, q_pureRow_eq_2, q_isVarO_eq_1, q_mapT_eq_1, q_mapT_eq_2, q_mapO_eq_1, q_mapO_eq_2, q_endK_eq_2, q_endL_eq_1, q_endV_eq_1, q_resL_eq_1, q_resL_eq_2, q_resX_eq_1, q_one_eq_2, q_V_nrm_eq_1, q_V_nrm_eq_5, q_K_nrm_eq_1, q_K_nrm_eq_3, q_O_nrm_eq_1, q_O_nrm_eq_2, q_V_owns_eq_1, q_V_owns_eq_3, q_K_owns_eq_2, q_V_ownsL_eq_1, q_V_ownsL_eq_2, q_V_toNew_eq_1, q_V_toNew_eq_4, q_K_toNew_eq_1, q_V_toNewL_eq_1, q_V_toNewL_eq_2, q_C_norm_eq_4, q_C_norm_eq_5, q_Bool_not_false, q_Option_map_some, q_List_map_cons, q_List_map_nil, q_List_take_succ_cons, q_List_take_zero, q_List_drop_zero, q_List_length_cons, q_List_length_nil, true_and, if_true, if_false, Bool.false_eq_true, and_self, List.append_nil, List.nodup_nil, Nat.reduceAdd, Nat.reduceLeDiff, Nat.reduceBEq, Nat.zero_add, Nat.add_zero, Nat.le_refl, q_learn_eq_1, q_guardP_eq_2, q_condK_eq_1, q_condB_eq_1, q_condB_eq_2, q_exK_eq_1, condB_decide, condB_beq, decide_false, norm_lst, normRows_T, normRows_ints, lookT_here, lookT_next, lookO_here, uf60r46, uf60b47, uf60r48, uf60b49, uf60r50, uf60b51, uf60b52, uf60r53, uf60b54, uf60b55, uf60r56, uf60b57, uf60b58, uf60b59, uf60b74, uf60b75, uf60r76, uf60b77]
      rw [List.drop_eq_nil_of_le (by omega), chkA] at hj
      have e : chk t = node t ty := by rw [chk_eq t, ← hj]; simp
      rw [e]
      clear ih hj e
      repeat' (first | with_reducible refine And.intro ?_ ?_ | with_reducible intro _)
      any_goals (refine call_s (s71 t) ?_; simp only [pairV, q_wpLs_eq_1, q_wpLs_eq_2, q_wpL_eq_1, q_exL_eq_1, q_exL_eq_27, q_look_eq_1, q_insT_eq_1, q_awl_eq_10, q_AE_thenL_eq_3, q_AE_inBlockL_eq_3, q_putK_eq_1, q_vExtr_eq_1, q_mapT_eq_1, q_mapT_eq_2, q_mapO_eq_1, q_mapO_eq_2, q_endK_eq_2, q_endL_eq_1, q_endV_eq_1, q_resL_eq_1, q_resL_eq_2, q_resX_eq_1, q_one_eq_2, q_V_nrm_eq_1, q_V_nrm_eq_2, q_V_nrm_eq_4, q_V_nrm_eq_5, q_K_nrm_eq_1, q_K_nrm_eq_3, q_V_nrmL_eq_1, q_V_nrmL_eq_2, q_O_nrm_eq_1, q_O_nrm_eq_2, q_V_owns_eq_1, q_V_owns_eq_3, q_K_owns_eq_2, q_V_ownsL_eq_1, q_V_ownsL_eq_2, q_V_toNew_eq_1, q_V_toNew_eq_4, q_K_toNew_eq_1, q_V_toNewL_eq_1, q_V_toNewL_eq_2, q_C_norm_eq_4, q_C_norm_eq_5, q_C_normRow_eq_1, q_C_normRow_eq_2, q_List_map_cons, q_List_map_nil, q_List_getElemQ_cons_zero, q_List_getElemQ_cons_succ, true_and, and_self, List.append_nil, List.nodup_nil, Nat.reduceBEq, norm_lst, normRows_T, normRows_ints, lookT_here, lookT_next])
      all_goals try (simp_all [node, pairV]; done)
      refine call_r (s72 t.op) ?_
      simp only [shapeV, q_wpLs_eq_1, q_wpLs_eq_2, q_wpL_eq_1, q_putDL_eq_1, q_AOp_dst_eq_8, q_AOp_dst_eq_10, q_AOp_dst_eq_20, q_exL_eq_1, q_exL_eq_3, q_exL_eq_4, q_exL_eq_8, q_exL_eq_9, q_exL_eq_11, q_exL_eq_21, q_exL_eq_30, q_look_eq_1, q_look_eq_2, q_lookT_eq_1, q_insT_eq_1, q_insO_eq_1, q_awl_eq_1, q_awl_eq_2, q_awl_eq_5, q_awl_eq_6, q_awl_eq_7, q_awl_eq_10, q_AE_thenL_eq_1, q_AE_thenL_eq_3, q_putK_eq_1, q_vBin_eq_1, q_resV_eq_1, q_binV_eq_1, q_binInt_eq_3, q_cutInt_eq_7, q_vLen_eq_2, q_lenO_eq_1, q_vFaddr_eq_1, q_loadO_eq_1, q_isV_eq_1, q_vLoad_eq_1, q_vPick_eq_1, q_vPick_eq_2, q_ofRow_eq_1, q_pureRow_eq_1, q_pureRow_eq_2, q_pureRow_eq_3, q_V_cells_eq_3, q_splice_eq_1, q_isVarO_eq_1, q_stVarK_eq_1, q_storeK_eq_1, q_mapT_eq_1, q_mapT_eq_2, q_mapO_eq_1, q_mapO_eq_2, q_freeB_eq_1, q_freeT_eq_1, q_freeT_eq_2, q_freeO_eq_1, q_freeO_eq_2, q_V_noRef_eq_1, q_V_noRef_eq_3, q_V_noRef_eq_6, q_K_noRef_eq_1, q_K_noRef_eq_2, q_K_noRef_eq_3, q_O_noRef_eq_1, q_O_noRef_eq_2, q_endK_eq_2, q_endL_eq_1, q_endV_eq_1, q_resL_eq_1, q_resL_eq_2, q_resX_eq_1, q_one_eq_2, q_V_nrm_eq_1, q_V_nrm_eq_3, q_V_nrm_eq_5, q_K_nrm_eq_1, q_K_nrm_eq_3, q_O_nrm_eq_1, q_O_nrm_eq_2, q_V_owns_eq_1, q_V_owns_eq_3, q_K_owns_eq_2, q_V_ownsL_eq_1, q_V_ownsL_eq_2, q_V_toNew_eq_1, q_V_toNew_eq_4, q_K_toNew_eq_1, q_V_toNewL_eq_1, q_V_toNewL_eq_2, q_C_norm_eq_1, q_C_norm_eq_4, q_C_norm_eq_5, q_C_normRows_eq_1, q_regN_eq_2, q_V_reg_eq_2, q_K_regs_eq_1, q_K_regs_eq_2, q_K_regs_eq_3, q_freesL_eq_1, q_freesL_eq_2, q_addsL_eq_1, q_addsL_eq_2, q_regK_eq_1, q_retK_eq_2, q_Bool_not_false, q_Option_map_some, q_List_map_cons, q_List_map_nil, q_List_take_succ_cons, q_List_take_zero, q_List_drop_succ_cons, q_List_drop_zero, q_List_nil_append, q_List_length_cons, q_List_length_nil, q_List_all_cons, q_List_all_nil, q_List_isEmpty_nil, true_and, if_true, if_false, Bool.false_eq_true, or_true, and_self, bne_iff_ne, ne_eq, Bool.and_eq_true, Bool.and_true, Bool.true_and, Bool.or_true, Bool.false_or, Int.reduceNeg, List.append_nil, List.nodup_nil, Nat.reduceAdd, Nat.reduceMul, Nat.reduceEqDiff, Nat.reduceLeDiff, Nat.reduceBEq, Nat.zero_add, Nat.add_zero, Nat.le_refl, q_learn_eq_1, not_false_eq_true, q_guardP_eq_2, q_condK_eq_1, q_condB_eq_1, q_condB_eq_2, q_exK_eq_1, condB_bne, norm_lst, normRows_T, normRows_ints, ints_len, lookT_here, lookT_next, lookO_here, lookO_next, uf60b34, uf60r35, uf60b36, uf60b37, uf60r38, uf60b39, uf60r40, uf60b41, uf60b42, uf60r43, uf60b44, uf60b45]
      refine ⟨fun h1 => ?_, fun h1 => ⟨fun h2 => ?_, fun h2 => ?_⟩⟩
      · have h1' : ty.length ≠ (shapeArgs t.op).length := by omega
        have a1 : ¬ (t.op < 0 ∨ t.op > 13) := by omega
        have a2 : ¬ (t.op = 0 ∨ t.op = 1 ∨ t.op = 2) := by omega
        simp only [node, pairV, if_neg a1, if_neg a2, if_pos (Or.inl h1' : ty.length ≠ (shapeArgs t.op).length ∨ t.n ≠ 0)]
      · have a1 : ¬ (t.op < 0 ∨ t.op > 13) := by omega
        have a2 : ¬ (t.op = 0 ∨ t.op = 1 ∨ t.op = 2) := by omega
        simp only [node, pairV, if_neg a1, if_neg a2, if_pos (Or.inr h2 : ty.length ≠ (shapeArgs t.op).length ∨ t.n ≠ 0)]
      · have hl : ty.length = (shapeArgs t.op).length := by omega
        have hs3 := shape_small t.op
        have hnode : node t ty = match fit (shapeArgs t.op) ty (-1) with
            | none => (0, 11)
            | some c => if shapeRes t.op = -1 then (c, 0) else (shapeRes t.op, 0) := by
          have a1 : ¬ (t.op < 0 ∨ t.op > 13) := by omega
          have a2 : ¬ (t.op = 0 ∨ t.op = 1 ∨ t.op = 2) := by omega
          simp only [node, if_neg a1, if_neg a2, hl, h2, ne_eq, not_true_eq_false, or_self, if_false]
          all_goals rfl
        rw [uf60l33]
        refine awl_loop (fun x : Nat × Int => [(4, .k (.own 16)), (9, .k (.ptr 9 0)), (10, .int .i64 x.2), (80, .k (.own 68000)), (81, .int .i64 ((shapeArgs t.op).length : Int)), (82, .int .i64 x.1)])
          (fun _ => [(9, .var 92 [.own 68000, .c (.int .i64 (shapeRes t.op))]), (16, .arr 3 1 (some false) (ints ty)), (68000, .arr 3 1 none (ints (shapeArgs t.op)))])
          (fun x => x.1 ≤ (shapeArgs t.op).length ∧ fit ((shapeArgs t.op).drop x.1) (ty.drop x.1) x.2 = fit (shapeArgs t.op) ty (-1)) (fun x => (shapeArgs t.op).length - x.1) (0, -1) rfl rfl ⟨Nat.zero_le _, rfl⟩ ?_
        rintro ⟨j, c⟩ ⟨hj1, hj2⟩
        simp only [] at hj1 hj2
        by_cases hlj : j < (shapeArgs t.op).length
        · have d1 : (j : Int) < (shapeArgs t.op).length := by omega
          have hlj2 : j < ty.length := by omega
          have d2 : (j : Int) < ty.length := by omega
          have d4 : IntKind.i64.wrap ((j : Int) + 1) = (j : Int) + 1 := wrap_in (by omega) (by omega)
          rw [fit_drop hlj hlj2] at hj2
          have hfail : ty[j] ≠ (if (shapeArgs t.op)[j] = -1 then (if (shapeArgs t.op)[j] = -1 ∧ c = -1 then ty[j] else c) else (shapeArgs t.op)[j]) → pairV (node t ty) = pairV (0, 11) := by
            intro hne
            rw [if_pos hne] at hj2
            rw [hnode, ← hj2]
          have hgo : ∀ c', c' = (if (shapeArgs t.op)[j] = -1 ∧ c = -1 then ty[j] else c) → ¬ (ty[j] ≠ (if (shapeArgs t.op)[j] = -1 then (if (shapeArgs t.op)[j] = -1 ∧ c = -1 then ty[j] else c) else (shapeArgs t.op)[j])) → fit ((shapeArgs t.op).drop (j + 1)) (ty.drop (j + 1)) c' = fit (shapeArgs t.op) ty (-1) := by
            rintro c' rfl hne
            rw [if_neg hne] at hj2; exact hj2
          clear hj2 hnode
          by_cases hw : (shapeArgs t.op)[j] = -1 <;> by_cases hc : c = -1
          all_goals simp only [hw, hc, true_and, false_and, and_true, and_false, if_true, if_false, not_true_eq_false, not_false_eq_true, ne_eq] at hfail hgo
          · simp only [d1, d2, d4, hw, hc, ints_at hlj, ints_at hlj2, q_wpLs_eq_1, q_wpLs_eq_2, q_wpL_eq_1, q_AOp_dst_eq_1, q_AOp_dst_eq_10, q_exL_eq_1, q_exL_eq_3, q_exL_eq_8, q_exL_eq_11, q_exL_eq_23, q_look_eq_1, q_look_eq_2, q_insT_eq_1, q_awl_eq_1, q_awl_eq_2, q_awl_eq_5, q_awl_eq_6, q_awl_eq_7, q_awl_eq_10, q_AE_thenL_eq_1, q_AE_thenL_eq_3, q_AE_inBlockL_eq_1, q_AE_inBlockL_eq_3, q_putK_eq_1, q_vBin_eq_1, q_resV_eq_1, q_binV_eq_1, q_binInt_eq_3, q_cutInt_eq_1, q_cutInt_eq_6, q_cutInt_eq_7, q_cutInt_eq_8, q_partV_eq_2, q_loadO_eq_2, q_isA_eq_1, q_vLoad_eq_3, q_vIaddr_eq_2, q_idxO_eq_1, q_vPick_eq_1, q_mapT_eq_1, q_mapT_eq_2, q_mapO_eq_1, q_mapO_eq_2, q_endK_eq_2, q_endL_eq_1, q_endV_eq_1, q_resL_eq_1, q_resL_eq_2, q_resX_eq_1, q_one_eq_2, q_V_nrm_eq_1, q_K_nrm_eq_1, q_K_nrm_eq_3, q_O_nrm_eq_1, q_O_nrm_eq_2, q_V_owns_eq_1, q_V_owns_eq_3, q_K_owns_eq_2, q_V_ownsL_eq_1, q_V_ownsL_eq_2, q_V_toNew_eq_1, q_V_toNew_eq_4, q_K_toNew_eq_1, q_V_toNewL_eq_1, q_V_toNewL_eq_2, q_C_norm_eq_4, q_C_norm_eq_5, q_Bool_not_true, q_List_map_cons, q_List_map_nil, q_List_getD_cons_zero, true_and, if_true, false_implies, forall_const, and_self, Int.reduceNeg, BEq.rfl, List.append_nil, List.nodup_nil, Nat.reduceBEq, Nat.zero_add, Int.toNat_natCast, Nat.le_refl, Int.natCast_nonneg, q_learn_eq_1, not_true_eq_false, q_guardP_eq_1, q_condK_eq_1, q_condB_eq_1, q_exK_eq_1, condB_bne, decide_true, normRows_ints, ints_len, lookT_here, lookT_next, lookO_here, lookO_next, uf60r9, uf60r10, uf60b11, uf60b12, uf60r13, uf60b14, uf60r15, uf60b16, uf60r17, uf60b18, uf60b19, uf60r20, uf60b21, uf60r22, uf60b23, uf60b24, uf60r25, uf60b26, uf60b27, uf60b28, uf60b29, uf60b30, uf60r31, uf60b32]
            exact Next.intro (j + 1, ty[j]) rfl rfl ⟨by simp only []; omega, hgo _ rfl (by simp)⟩ (by simp only []; omega)
          · simp only [d1, d2, d4, hw, hc, ints_at hlj, ints_at hlj2, q_wpLs_eq_1, q_wpLs_eq_2, q_wpL_eq_1, q_AOp_dst_eq_1, q_AOp_dst_eq_10, q_exL_eq_1, q_exL_eq_3, q_exL_eq_8, q_exL_eq_11, q_exL_eq_23, q_look_eq_1, q_look_eq_2, q_insT_eq_1, q_awl_eq_1, q_awl_eq_2, q_awl_eq_5, q_awl_eq_6, q_awl_eq_7, q_awl_eq_10, q_AE_thenL_eq_1, q_AE_thenL_eq_3, q_AE_inBlockL_eq_1, q_AE_inBlockL_eq_3, q_putK_eq_1, q_vBin_eq_1, q_resV_eq_1, q_binV_eq_1, q_binInt_eq_3, q_cutInt_eq_1, q_cutInt_eq_6, q_cutInt_eq_7, q_cutInt_eq_8, q_partV_eq_2, q_loadO_eq_2, q_isA_eq_1, q_vLoad_eq_3, q_vIaddr_eq_2, q_idxO_eq_1, q_vPick_eq_1, q_mapT_eq_1, q_mapT_eq_2, q_mapO_eq_1, q_mapO_eq_2, q_endK_eq_2, q_endL_eq_1, q_endV_eq_1, q_resL_eq_1, q_resL_eq_2, q_resX_eq_1, q_one_eq_2, q_V_nrm_eq_1, q_K_nrm_eq_1, q_K_nrm_eq_3, q_O_nrm_eq_1, q_O_nrm_eq_2, q_V_owns_eq_1, q_V_owns_eq_3, q_K_owns_eq_2, q_V_ownsL_eq_1, q_V_ownsL_eq_2, q_V_toNew_eq_1, q_V_toNew_eq_4, q_K_toNew_eq_1, q_V_toNewL_eq_1, q_V_toNewL_eq_2, q_C_norm_eq_4, q_C_norm_eq_5, q_Bool_not_true, q_List_map_cons, q_List_map_nil, q_List_getD_cons_zero, true_and, if_true, false_implies, forall_const, and_self, Int.reduceNeg, BEq.rfl, List.append_nil, List.nodup_nil, Nat.reduceBEq, Nat.zero_add, Int.toNat_natCast, Nat.le_refl, Int.natCast_nonneg, q_learn_eq_1, not_true_eq_false, not_false_eq_true, q_guardP_eq_1, q_condK_eq_1, q_condB_eq_1, q_exK_eq_1, condB_beq, condB_bne, decide_true, normRows_ints, ints_len, lookT_here, lookT_next, lookO_here, lookO_next, uf60r9, uf60r10, uf60b11, uf60b12, uf60r13, uf60b14, uf60r15, uf60b16, uf60r17, uf60b18, uf60b19, uf60r20, uf60b21, uf60r22, uf60b23, uf60b24, uf60r25, uf60b26, uf60b27, uf60b28, uf60b29, uf60b30, uf60r31, uf60b32]
            refine ⟨fun h => ?_, fun h => ?_⟩
            · rw [hfail h]; rfl
            · exact Next.intro (j + 1, c) rfl rfl ⟨by simp only []; omega, hgo _ rfl (by simp [h])⟩ (by simp only []; omega)
          · simp only [d1, d2, d4, hw, hc, ints_at hlj, ints_at hlj2, q_wpLs_eq_1, q_wpLs_eq_2, q_wpL_eq_1, q_putDL_eq_1, q_AOp_dst_eq_1, q_AOp_dst_eq_10, q_exL_eq_1, q_exL_eq_3, q_exL_eq_8, q_exL_eq_11, q_exL_eq_23, q_look_eq_1, q_look_eq_2, q_insT_eq_1, q_awl_eq_1, q_awl_eq_2, q_awl_eq_5, q_awl_eq_6, q_awl_eq_7, q_awl_eq_10, q_AE_thenL_eq_1, q_AE_thenL_eq_3, q_AE_inBlockL_eq_1, q_AE_inBlockL_eq_3, q_putK_eq_1, q_vBin_eq_1, q_resV_eq_1, q_binV_eq_1, q_binInt_eq_3, q_cutInt_eq_1, q_cutInt_eq_6, q_cutInt_eq_7, q_cutInt_eq_8, q_partV_eq_2, q_loadO_eq_2, q_isA_eq_1, q_vLoad_eq_3, q_vIaddr_eq_2, q_idxO_eq_1, q_vPick_eq_1, q_vPick_eq_3, q_mapT_eq_1, q_mapT_eq_2, q_mapO_eq_1, q_mapO_eq_2, q_endK_eq_2, q_endL_eq_1, q_endV_eq_1, q_resL_eq_1, q_resL_eq_2, q_resX_eq_1, q_one_eq_2, q_V_nrm_eq_1, q_V_nrm_eq_5, q_K_nrm_eq_1, q_K_nrm_eq_3, q_O_nrm_eq_1, q_O_nrm_eq_2, q_V_owns_eq_1, q_V_owns_eq_3, q_K_owns_eq_2, q_V_ownsL_eq_1, q_V_ownsL_eq_2, q_V_toNew_eq_1, q_V_toNew_eq_4, q_K_toNew_eq_1, q_V_toNewL_eq_1, q_V_toNewL_eq_2, q_C_norm_eq_4, q_C_norm_eq_5, q_Bool_not_true, q_List_map_cons, q_List_map_nil, q_List_getD_cons_zero, true_and, if_true, false_implies, forall_const, and_self, Int.reduceNeg, BEq.rfl, List.append_nil, List.nodup_nil, Nat.reduceBEq, Nat.zero_add, Int.toNat_natCast, Nat.le_refl, Int.natCast_nonneg, q_learn_eq_1, not_true_eq_false, not_false_eq_true, q_guardP_eq_1, q_condK_eq_1, q_condB_eq_1, q_condB_eq_2, q_exK_eq_1, condB_beq, condB_bne, decide_true, normRows_ints, ints_len, lookT_here, lookT_next, lookO_here, lookO_next, uf60r9, uf60r10, uf60b11, uf60b12, uf60r13, uf60b14, uf60r15, uf60b16, uf60r17, uf60b18, uf60b19, uf60r20, uf60b21, uf60r22, uf60b23, uf60b24, uf60r25, uf60b26, uf60b27, uf60b28, uf60b29, uf60b30, uf60r31, uf60b32]
            refine ⟨fun h => ?_, fun h => ?_⟩
            · rw [hfail h]; rfl
            · exact Next.intro (j + 1, -1) rfl rfl ⟨by simp only []; omega, hgo _ rfl (by simp [h])⟩ (by simp only []; omega)
          · simp only [d1, d2, d4, hw, hc, ints_at hlj, ints_at hlj2, q_wpLs_eq_1, q_wpLs_eq_2, q_wpL_eq_1, q_putDL_eq_1, q_AOp_dst_eq_1, q_AOp_dst_eq_10, q_exL_eq_1, q_exL_eq_3, q_exL_eq_8, q_exL_eq_11, q_exL_eq_23, q_look_eq_1, q_look_eq_2, q_insT_eq_1, q_awl_eq_1, q_awl_eq_2, q_awl_eq_5, q_awl_eq_6, q_awl_eq_7, q_awl_eq_10, q_AE_thenL_eq_1, q_AE_thenL_eq_3, q_AE_inBlockL_eq_1, q_AE_inBlockL_eq_3, q_putK_eq_1, q_vBin_eq_1, q_resV_eq_1, q_binV_eq_1, q_binInt_eq_3, q_cutInt_eq_1, q_cutInt_eq_6, q_cutInt_eq_7, q_cutInt_eq_8, q_partV_eq_2, q_loadO_eq_2, q_isA_eq_1, q_vLoad_eq_3, q_vIaddr_eq_2, q_idxO_eq_1, q_vPick_eq_1, q_vPick_eq_3, q_mapT_eq_1, q_mapT_eq_2, q_mapO_eq_1, q_mapO_eq_2, q_endK_eq_2, q_endL_eq_1, q_endV_eq_1, q_resL_eq_1, q_resL_eq_2, q_resX_eq_1, q_one_eq_2, q_V_nrm_eq_1, q_V_nrm_eq_5, q_K_nrm_eq_1, q_K_nrm_eq_3, q_O_nrm_eq_1, q_O_nrm_eq_2, q_V_owns_eq_1, q_V_owns_eq_3, q_K_owns_eq_2, q_V_ownsL_eq_1, q_V_ownsL_eq_2, q_V_toNew_eq_1, q_V_toNew_eq_4, q_K_toNew_eq_1, q_V_toNewL_eq_1, q_V_toNewL_eq_2, q_C_norm_eq_4, q_C_norm_eq_5, q_Bool_not_true, q_List_map_cons, q_List_map_nil, q_List_getD_cons_zero, true_and, if_true, false_implies, forall_const, and_self, Int.reduceNeg, List.append_nil, List.nodup_nil, Nat.reduceBEq, Nat.zero_add, Int.toNat_natCast, Nat.le_refl, Int.natCast_nonneg, q_learn_eq_1, not_true_eq_false, not_false_eq_true, q_guardP_eq_1, q_condK_eq_1, q_condB_eq_1, q_condB_eq_2, q_exK_eq_1, condB_beq, condB_bne, decide_true, normRows_ints, ints_len, lookT_here, lookT_next, lookO_here, lookO_next, uf60r9, uf60r10, uf60b11, uf60b12, uf60r13, uf60b14, uf60r15, uf60b16, uf60r17, uf60b18, uf60b19, uf60r20, uf60b21, uf60r22, uf60b23, uf60b24, uf60r25, uf60b26, uf60b27, uf60b28, uf60b29, uf60b30, uf60r31, uf60b32]
            refine ⟨fun h => ?_, fun h => ?_⟩
            · rw [hfail h]; rfl
            · exact Next.intro (j + 1, c) rfl rfl ⟨by simp only []; omega, hgo _ rfl (by simp [h])⟩ (by simp only []; omega)
        · have d1 : ¬ (j : Int) < (shapeArgs t.op).length := by omega
          rw [fit_end _ _ _ (List.drop_eq_nil_of_le (by omega))] at hj2
          simp only [d1, q_wpLs_eq_1, q_wpLs_eq_2, q_wpL_eq_1, q_exL_eq_1, q_exL_eq_8, q_exL_eq_11, q_exL_eq_21, q_look_eq_1, q_look_eq_2, q_insT_eq_1, q_awl_eq_1, q_awl_eq_2, q_awl_eq_5, q_awl_eq_6, q_awl_eq_9, q_awl_eq_10, q_AE_thenL_eq_1, q_AE_thenL_eq_2, q_AE_thenL_eq_3, q_AE_inBlockL_eq_2, q_putK_eq_1, q_vBin_eq_1, q_resV_eq_1, q_binV_eq_1, q_binInt_eq_3, q_cutInt_eq_6, q_cutInt_eq_8, q_vFaddr_eq_1, q_loadO_eq_1, q_isV_eq_1, q_vLoad_eq_1, q_ofRow_eq_1, q_pureRow_eq_1, q_pureRow_eq_2, q_isVarO_eq_1, q_mapT_eq_1, q_mapT_eq_2, q_mapO_eq_1, q_mapO_eq_2, q_endK_eq_2, q_endL_eq_1, q_endV_eq_1, q_resL_eq_1, q_resL_eq_2, q_resX_eq_1, q_one_eq_2, q_V_nrm_eq_1, q_K_nrm_eq_1, q_K_nrm_eq_3, q_O_nrm_eq_1, q_O_nrm_eq_2, q_V_owns_eq_1, q_V_owns_eq_3, q_K_owns_eq_2, q_V_ownsL_eq_1, q_V_ownsL_eq_2, q_V_toNew_eq_1, q_V_toNew_eq_4, q_K_toNew_eq_1, q_V_toNewL_eq_1, q_V_toNewL_eq_2, q_C_norm_eq_4, q_C_norm_eq_5, q_Option_map_some, q_List_map_cons, q_List_map_nil, q_List_take_succ_cons, q_List_take_zero, q_List_drop_succ_cons, q_List_drop_zero, q_List_length_cons, q_List_length_nil, true_and, if_true, if_false, Bool.false_eq_true, and_self, Int.reduceNeg, List.append_nil, List.nodup_nil, Nat.reduceAdd, Nat.reduceBEq, Nat.zero_add, Nat.le_refl, q_learn_eq_1, q_condK_eq_1, q_condB_eq_2, condB_beq, decide_false, normRows_ints, lookT_here, lookT_next, lookO_here, uf60r1, uf60b2, uf60r3, uf60b4, uf60b5, uf60r6, uf60b7, uf60b8, uf60b29, uf60b30, uf60r31, uf60b32]
          rw [hnode, ← hj2]
          refine ⟨fun h => ?_, fun h => ?_⟩ <;> simp [pairV, h]
end Go.Abs

set_option maxRecDepth 100000
set_option maxHeartbeats 4000000
namespace Go.Abs
open Go.Proofs

def kindK (op : Int) (l : List Int) : Int := if op = 3 ∨ op = 4 ∨ op = 5 ∨ op = 7 ∨ op = 8 then 1 else if op = 6 then l.getD 1 0 else 0
def kindB (op : Int) (l : List Int) : Bool :=
  if op = 3 then decide (l.getD 0 0 = 1) else if op = 4 ∨ op = 5 then decide (l.getD 0 0 = 1 ∧ l.getD 1 0 = 1) else if op = 6 then decide (l.getD 0 0 = 1 ∧ l.getD 1 0 = l.getD 2 0)
  else if op = 8 then decide (l.getD 0 0 = l.getD 1 0) else decide (l.getD 0 0 = 0 ∧ l.getD 1 0 = 0)
theorem list1 {α : Type} {l : List α} (h : l.length = 1) : ∃ a, l = [a] := by
  match l, h with
  | [a], _ => exact ⟨a, rfl⟩
theorem list2 {α : Type} {l : List α} (h : l.length = 2) : ∃ a b, l = [a, b] := by
  match l, h with
  | [a, b], _ => exact ⟨a, b, rfl⟩
theorem list3 {α : Type} {l : List α} (h : l.length = 3) : ∃ a b c, l = [a, b, c] := by
  match l, h with
  | [a, b, c], _ => exact ⟨a, b, c, rfl⟩
theorem beq_dec (a b : Int) : (a == b) = decide (a = b) := by by_cases h : a = b <;> simp [h]
theorem s75 (op : Int) (l : List Int) (h1 : 3 ≤ op) (hl : (l.length : Int) = arity op) : Spec Try.prog 75 [.int .i64 op, lst 1 (ints l)] (fun r => r = .tup [.int .i64 (kindK op l), .bool (kindB op l)]) := by
  by_cases e3 : op = 3
  · subst e3
    have h2 : l.length = 1 := by simp [arity] at hl; omega
    obtain ⟨a, rfl⟩ := list1 h2
    refine Spec.of_awl hf75 okf75 (by simp) ?_
    simp only [ints, List.map_cons, List.map_nil, List.length_cons, List.length_nil, List.getD_cons_zero, List.getD_cons_succ, q_wpLs_eq_1, q_wpLs_eq_2, q_wpLQs_eq_1, q_wpLQs_eq_2, q_wpL_eq_1, q_wpLQ_eq_1, q_exL_eq_1, q_exL_eq_11, q_exLQ_eq_1, q_exLQ_eq_9, q_exLQ_eq_12, q_exLQ_eq_24, q_look_eq_1, q_look_eq_2, q_lookO_eq_1, q_insT_eq_1, q_awl_eq_2, q_awl_eq_3, q_awl_eq_5, q_awl_eq_6, q_awl_eq_7, q_awl_eq_10, q_AE_thenL_eq_1, q_AE_thenL_eq_3, q_AE_inBlockL_eq_3, q_initT_eq_1, q_initT_eq_2, q_putK_eq_1, q_vBin_eq_1, q_resV_eq_1, q_binV_eq_1, q_binInt_eq_3, q_cutInt_eq_6, q_partV_eq_2, q_vLoad_eq_2, q_mapT_eq_1, q_mapT_eq_2, q_mapO_eq_1, q_endK_eq_2, q_endL_eq_1, q_endV_eq_1, q_resL_eq_1, q_resL_eq_2, q_resX_eq_1, q_one_eq_2, q_V_nrm_eq_1, q_K_nrm_eq_1, q_K_nrm_eq_2, q_V_owns_eq_1, q_V_owns_eq_3, q_K_owns_eq_2, q_V_ownsL_eq_1, q_V_ownsL_eq_2, q_V_toNew_eq_1, q_V_toNew_eq_4, q_K_toNew_eq_1, q_V_toNewL_eq_1, q_V_toNewL_eq_2, q_C_norm_eq_4, q_C_norm_eq_5, q_C_normRow_eq_1, q_C_normRow_eq_2, q_C_normRows_eq_1, q_C_normRows_eq_2, true_and, if_true, and_self, BEq.rfl, List.append_nil, List.nodup_nil, Nat.reduceAdd, Nat.reduceBEq, Nat.zero_add, Int.toNat_zero, Nat.le_refl, q_learn_eq_1, q_condK_eq_1, q_condB_eq_1, r_vIaddr_lst, norm_lst, lookT_here, lookT_next, Int.reduceLT, Int.reduceLE, Int.cast_ofNat_Int, uf75, uf75r3, uf75b4, uf75b28, uf75r29, uf75b30, uf75b31, uf75r32, uf75b33, uf75b34, uf75r35, uf75b36]
    simp [kindK, kindB, beq_dec]
  by_cases e6 : op = 6
  · subst e6
    have h2 : l.length = 3 := by simp [arity] at hl; omega
    obtain ⟨a, b, c, rfl⟩ := list3 h2
    clear hl h2 e3 h1
    refine Spec.of_awl hf75 okf75 (by simp) ?_
    simp only [ints, List.map_cons, List.map_nil, List.length_cons, List.length_nil, List.getD_cons_zero, List.getD_cons_succ, q_wpLs_eq_1, q_wpLs_eq_2, q_wpLQs_eq_1, q_wpLQs_eq_2, q_wpL_eq_1, q_wpLQ_eq_1, q_putDL_eq_1, q_AOp_dst_eq_1, q_AOp_dst_eq_8, q_AOp_dst_eq_10, q_AOp_dst_eq_22, q_exL_eq_1, q_exL_eq_11, q_exLQ_eq_1, q_exLQ_eq_3, q_exLQ_eq_9, q_exLQ_eq_12, q_exLQ_eq_24, q_look_eq_1, q_look_eq_2, q_lookO_eq_1, q_insT_eq_1, q_awl_eq_2, q_awl_eq_3, q_awl_eq_5, q_awl_eq_6, q_awl_eq_7, q_awl_eq_10, q_AE_thenL_eq_1, q_AE_thenL_eq_3, q_AE_inBlockL_eq_3, q_initT_eq_1, q_initT_eq_2, q_putK_eq_1, q_vBin_eq_1, q_resV_eq_1, q_binV_eq_1, q_binInt_eq_3, q_cutInt_eq_6, q_partV_eq_2, q_vLoad_eq_2, q_vPick_eq_1, q_vPick_eq_3, q_mapT_eq_1, q_mapT_eq_2, q_mapO_eq_1, q_endK_eq_2, q_endL_eq_1, q_endV_eq_1, q_resL_eq_1, q_resL_eq_2, q_resX_eq_1, q_one_eq_2, q_V_nrm_eq_1, q_V_nrm_eq_5, q_K_nrm_eq_1, q_K_nrm_eq_2, q_V_owns_eq_1, q_V_owns_eq_3, q_K_owns_eq_2, q_V_ownsL_eq_1, q_V_ownsL_eq_2, q_V_toNew_eq_1, q_V_toNew_eq_4, q_K_toNew_eq_1, q_V_toNewL_eq_1, q_V_toNewL_eq_2, q_C_norm_eq_4, q_C_norm_eq_5, q_C_normRow_eq_1, q_C_normRow_eq_2, q_C_normRows_eq_1, q_C_normRows_eq_2, q_Bool_not_true, true_and, if_true, and_self, BEq.rfl, List.append_nil, List.nodup_nil, Nat.reduceAdd, Nat.reduceBEq, Nat.zero_add, Int.toNat_zero, Nat.le_refl, q_learn_eq_1, q_guardP_eq_1, q_condK_eq_1, q_condB_eq_1, q_condB_eq_2, q_exKQ_eq_1, condB_beq, r_vIaddr_lst, norm_lst, lookT_here, lookT_next, Int.reduceLT, Int.reduceLE, Int.reduceToNat, Int.reduceBEq, Int.cast_ofNat_Int, uf75, uf75r7, uf75b8, uf75b19, uf75r20, uf75b21, uf75b22, uf75r23, uf75b24, uf75r25, uf75b26, uf75b27, uf75b28, uf75r29, uf75b30, uf75b31, uf75r32, uf75b33, uf75b34, uf75r35, uf75b36]
    repeat' (first | with_reducible refine And.intro ?_ ?_ | with_reducible intro _)
    all_goals simp_all [kindK, kindB, beq_dec]
  have h2 : l.length = 2 := by rw [arity, if_neg (by omega), if_neg e3, if_neg e6] at hl; omega
  obtain ⟨a, b, rfl⟩ := list2 h2
  clear hl h2
  refine Spec.of_awl hf75 okf75 (by simp) ?_
  simp only [e3, e6, ints, List.map_cons, List.map_nil, List.length_cons, List.length_nil, List.getD_cons_zero, List.getD_cons_succ, q_wpLs_eq_1, q_wpLs_eq_2, q_wpLQs_eq_1, q_wpLQs_eq_2, q_wpL_eq_1, q_wpLQ_eq_1, q_putDL_eq_1, q_AOp_dst_eq_1, q_AOp_dst_eq_8, q_AOp_dst_eq_10, q_AOp_dst_eq_22, q_exL_eq_1, q_exL_eq_11, q_exLQ_eq_1, q_exLQ_eq_3, q_exLQ_eq_9, q_exLQ_eq_12, q_exLQ_eq_24, q_look_eq_1, q_look_eq_2, q_lookO_eq_1, q_insT_eq_1, q_awl_eq_1, q_awl_eq_2, q_awl_eq_3, q_awl_eq_5, q_awl_eq_6, q_awl_eq_7, q_awl_eq_10, q_AE_thenL_eq_1, q_AE_thenL_eq_3, q_AE_inBlockL_eq_1, q_AE_inBlockL_eq_3, q_initT_eq_1, q_initT_eq_2, q_putK_eq_1, q_vBin_eq_1, q_resV_eq_1, q_binV_eq_1, q_binInt_eq_3, q_cutInt_eq_6, q_partV_eq_2, q_vLoad_eq_2, q_vPick_eq_1, q_vPick_eq_3, q_mapT_eq_1, q_mapT_eq_2, q_mapO_eq_1, q_endK_eq_2, q_endL_eq_1, q_endV_eq_1, q_resL_eq_1, q_resL_eq_2, q_resX_eq_1, q_one_eq_2, q_V_nrm_eq_1, q_V_nrm_eq_5, q_K_nrm_eq_1, q_K_nrm_eq_2, q_V_owns_eq_1, q_V_owns_eq_3, q_K_owns_eq_2, q_V_ownsL_eq_1, q_V_ownsL_eq_2, q_V_toNew_eq_1, q_V_toNew_eq_4, q_K_toNew_eq_1, q_V_toNewL_eq_1, q_V_toNewL_eq_2, q_C_norm_eq_4, q_C_norm_eq_5, q_C_normRow_eq_1, q_C_normRow_eq_2, q_C_normRows_eq_1, q_C_normRows_eq_2, q_Bool_not_true, true_and, if_true, false_implies, forall_const, and_self, List.append_nil, List.nodup_nil, Nat.reduceAdd, Nat.reduceBEq, Nat.zero_add, Int.toNat_zero, Nat.le_refl, q_learn_eq_1, not_false_eq_true, q_guardP_eq_1, q_condK_eq_1, q_condB_eq_1, q_condB_eq_2, q_exKQ_eq_1, condB_beq, r_vIaddr_lst, norm_lst, lookT_here, lookT_next, Int.reduceLT, Int.reduceLE, Int.reduceToNat, Int.cast_ofNat_Int, uf75, uf75r1, uf75b2, uf75r3, uf75b4, uf75r5, uf75b6, uf75r7, uf75b8, uf75r9, uf75b10, uf75r11, uf75b12, uf75b13, uf75r14, uf75b15, uf75b16, uf75r17, uf75b18, uf75b19, uf75r20, uf75b21, uf75b22, uf75r23, uf75b24, uf75r25, uf75b26, uf75b27, uf75b28, uf75r29, uf75b30, uf75b31, uf75r32, uf75b33, uf75b34, uf75r35, uf75b36]
  repeat' (first | with_reducible refine And.intro ?_ ?_ | with_reducible intro _)
  all_goals simp_all [kindK, kindB, beq_dec]
theorem s30 (t : Term) : Spec Try.prog 30 [.agg (encT t)] (fun r => r = .bool (few t)) := by
  refine Spec.of_awl hf30 okf30 (by simp) ?_
  simp only [q_wpLs_eq_1, q_wpLs_eq_2, q_wpL_eq_1, q_exL_eq_1, q_exL_eq_5, q_exL_eq_8, q_exL_eq_28, q_look_eq_1, q_look_eq_2, q_insT_eq_1, q_insO_eq_1, q_awl_eq_2, q_awl_eq_5, q_AE_thenL_eq_1, q_initT_eq_1, q_initT_eq_2, q_putK_eq_1, q_loadO_eq_1, q_isV_eq_1, q_vLoad_eq_1, q_boxK_eq_1, q_freeB_eq_1, q_freeT_eq_1, q_freeT_eq_2, q_freeO_eq_1, q_V_noRef_eq_2, q_List_map_cons, q_List_map_nil, q_List_drop_zero, true_and, Bool.and_true, Bool.or_true, Nat.reduceBEq, Nat.zero_add, Nat.le_refl, List.length_map, r_ofRow_take, encT_len, lookT_here, lookT_next, lookO_here, uf30, uf30r1, uf30b2, uf30r3, uf30b4]
  refine call_s (s58 20 t 100 (by omega) (by omega) (by omega)) ?_
  simp only [q_wpLs_eq_1, q_wpLs_eq_2, q_wpL_eq_1, q_exL_eq_1, q_exL_eq_11, q_look_eq_1, q_look_eq_2, q_insT_eq_1, q_awl_eq_10, q_putK_eq_1, q_vBin_eq_1, q_resV_eq_1, q_binV_eq_1, q_binInt_eq_3, q_cutInt_eq_11, q_mapT_eq_1, q_mapT_eq_2, q_mapO_eq_1, q_mapO_eq_2, q_endK_eq_2, q_endL_eq_1, q_endV_eq_1, q_resL_eq_1, q_resL_eq_2, q_resX_eq_1, q_one_eq_1, q_V_nrm_eq_1, q_V_nrm_eq_2, q_K_nrm_eq_1, q_K_nrm_eq_3, q_O_nrm_eq_1, q_V_owns_eq_1, q_K_owns_eq_2, q_V_toNew_eq_1, q_K_toNew_eq_1, q_C_norm_eq_4, q_C_norm_eq_5, true_and, if_true, and_self, List.nodup_nil, encT_norm, lookT_here, Int.cast_ofNat_Int, r_map_nrm]
  rfl
theorem s31 (t : Term) : Spec Try.prog 31 [.agg (encT t)] (fun r => r = pairV (checkT t)) := by
  refine Spec.of_awl hf31 okf31 (by simp) ?_
  simp only [q_wpLs_eq_1, q_wpLs_eq_2, q_wpL_eq_1, q_exL_eq_1, q_exL_eq_5, q_exL_eq_8, q_exL_eq_28, q_look_eq_1, q_look_eq_2, q_insT_eq_1, q_insO_eq_1, q_awl_eq_2, q_awl_eq_5, q_AE_thenL_eq_1, q_initT_eq_1, q_initT_eq_2, q_putK_eq_1, q_loadO_eq_1, q_isV_eq_1, q_vLoad_eq_1, q_boxK_eq_1, q_freeB_eq_1, q_freeT_eq_1, q_freeT_eq_2, q_freeO_eq_1, q_V_noRef_eq_2, q_List_map_cons, q_List_map_nil, q_List_drop_zero, true_and, Bool.and_true, Bool.or_true, Nat.reduceBEq, Nat.zero_add, Nat.le_refl, List.length_map, r_ofRow_take, encT_len, lookT_here, lookT_next, lookO_here, uf31, uf31r6, uf31b7, uf31b8, uf31r9, uf31b10]
  refine call_s (s59 8 t (by omega)) ?_
  have hm := meas_check t
  simp only [q_wpLs_eq_1, q_wpLs_eq_2, q_wpL_eq_1, q_exL_eq_1, q_exL_eq_8, q_exL_eq_11, q_exL_eq_28, q_look_eq_1, q_look_eq_2, q_insT_eq_1, q_awl_eq_1, q_awl_eq_2, q_awl_eq_5, q_awl_eq_6, q_awl_eq_10, q_AE_thenL_eq_1, q_AE_thenL_eq_3, q_putK_eq_1, q_vBin_eq_1, q_resV_eq_1, q_binV_eq_1, q_binInt_eq_3, q_cutInt_eq_10, q_loadO_eq_1, q_isV_eq_1, q_vLoad_eq_1, q_mapT_eq_1, q_mapT_eq_2, q_mapO_eq_1, q_mapO_eq_2, q_endK_eq_2, q_endL_eq_1, q_endV_eq_1, q_resL_eq_1, q_resL_eq_2, q_resX_eq_1, q_one_eq_2, q_V_nrm_eq_1, q_V_nrm_eq_2, q_K_nrm_eq_1, q_K_nrm_eq_3, q_O_nrm_eq_1, q_V_owns_eq_1, q_V_owns_eq_3, q_K_owns_eq_2, q_V_ownsL_eq_1, q_V_ownsL_eq_2, q_V_toNew_eq_1, q_V_toNew_eq_4, q_K_toNew_eq_1, q_V_toNewL_eq_1, q_V_toNewL_eq_2, q_C_norm_eq_4, q_C_norm_eq_5, q_List_map_cons, q_List_map_nil, q_List_drop_zero, true_and, if_true, and_self, List.append_nil, List.nodup_nil, Nat.reduceBEq, Nat.zero_add, Nat.le_refl, q_learn_eq_1, q_condK_eq_1, condB_decide, encT_norm, List.length_map, r_ofRow_take, encT_len, lookT_here, lookT_next, lookO_here, r_map_nrm, uf31r1, uf31b2, uf31r3, uf31b4, uf31b5]
  refine ⟨fun h => ?_, fun h => ?_⟩
  · rw [checkT, if_pos (hm.1 h)]; rfl
  · have h0 : ¬ nodes t 60 8 < 0 := fun h' => h (hm.2 h')
    refine call_s (s60 8 t (narrow_of 8 t 60 (by omega) (by simp; omega))) ?_
    simp only [pairV, q_wpLs_eq_1, q_wpLs_eq_2, q_wpL_eq_1, q_exL_eq_1, q_exL_eq_27, q_look_eq_1, q_insT_eq_1, q_awl_eq_10, q_putK_eq_1, q_vExtr_eq_1, q_mapT_eq_1, q_mapT_eq_2, q_mapO_eq_1, q_mapO_eq_2, q_endK_eq_2, q_endL_eq_1, q_endV_eq_1, q_resL_eq_1, q_resL_eq_2, q_resX_eq_1, q_one_eq_2, q_V_nrm_eq_1, q_V_nrm_eq_2, q_V_nrm_eq_4, q_K_nrm_eq_1, q_K_nrm_eq_3, q_V_nrmL_eq_1, q_V_nrmL_eq_2, q_O_nrm_eq_1, q_V_owns_eq_1, q_V_owns_eq_3, q_K_owns_eq_2, q_V_ownsL_eq_1, q_V_ownsL_eq_2, q_V_toNew_eq_1, q_V_toNew_eq_4, q_K_toNew_eq_1, q_V_toNewL_eq_1, q_V_toNewL_eq_2, q_C_norm_eq_4, q_C_norm_eq_5, q_List_getElemQ_cons_zero, q_List_getElemQ_cons_succ, true_and, and_self, List.append_nil, List.nodup_nil, Nat.reduceBEq, encT_norm, lookT_here, lookT_next, r_map_nrm]
    rw [checkT, if_neg h0]
end Go.Abs

set_option maxRecDepth 100000
set_option maxHeartbeats 4000000
namespace Go.Abs
open Go.Proofs
theorem kind_fit {op : Int} {ty : List Int} (h1 : 3 ≤ op) (h2 : op ≤ 13) (hl : (ty.length : Int) = arity op) (ht : ∀ x ∈ ty, x = 0 ∨ x = 1) :
    (match fit (shapeArgs op) ty (-1) with | none => ((0 : Int), (11 : Int)) | some c => if shapeRes op = -1 then (c, 0) else (shapeRes op, 0)) = if kindB op ty = true then (kindK op ty, 0) else (0, 11) := by
  have hop : op = 3 ∨ op = 4 ∨ op = 5 ∨ op = 6 ∨ op = 7 ∨ op = 8 ∨ op = 9 ∨ op = 10 ∨ op = 11 ∨ op = 12 ∨ op = 13 := by omega
  by_cases e3 : op = 3
  · subst e3
    have hl2 : ty.length = 1 := by simp [arity] at hl; omega
    obtain ⟨a, rfl⟩ := list1 hl2
    rcases ht a (by simp) with rfl | rfl <;> rfl
  by_cases e6 : op = 6
  · subst e6
    have hl2 : ty.length = 3 := by simp [arity] at hl; omega
    obtain ⟨a, b, c, rfl⟩ := list3 hl2
    rcases ht a (by simp) with rfl | rfl <;> rcases ht b (by simp) with rfl | rfl <;> rcases ht c (by simp) with rfl | rfl <;> rfl
  have hl2 : ty.length = 2 := by rw [arity, if_neg (by omega), if_neg e3, if_neg e6] at hl; omega
  obtain ⟨a, b, rfl⟩ := list2 hl2
  rcases hop with rfl | rfl | rfl | rfl | rfl | rfl | rfl | rfl | rfl | rfl | rfl
  all_goals first
    | exact absurd rfl e3
    | exact absurd rfl e6
    | (rcases ht a (by simp) with rfl | rfl <;> rcases ht b (by simp) with rfl | rfl <;> rfl)
theorem arity_shape {op : Int} (h : 3 ≤ op) : arity op = (shapeArgs op).length := by
  rw [shape_len h, arity, if_neg (by omega)]
theorem node_typed (t : Term) (ty : List Int) (ht : ∀ x ∈ ty, x = 0 ∨ x = 1) (h1 : 0 ≤ t.op) (h2 : t.op ≤ 13) (hl : (ty.length : Int) = arity t.op) (hn : 3 ≤ t.op) (h0 : t.n = 0) :
    node t ty = if kindB t.op ty = true then (kindK t.op ty, 0) else (0, 11) := by
  have hsh := arity_shape hn
  rw [← kind_fit hn h2 hl ht]
  have a1 : ¬ (t.op < 0 ∨ t.op > 13) := by omega
  have a2 : ¬ (t.op = 0 ∨ t.op = 1 ∨ t.op = 2) := by omega
  have a3 : ¬ (ty.length ≠ (shapeArgs t.op).length ∨ t.n ≠ 0) := by omega
  simp only [node, if_neg a1, if_neg a2, if_neg a3]
  all_goals rfl
theorem s61 : ∀ (f : Nat) (t : Term), Narrow f t → Spec Try.prog 61 [.agg (encT t)] (fun r => r = pairV (chk t)) := by
  intro f
  induction f with
  | zero => intro t h; exact h.elim
  | succ f ih =>
    intro t hN
    refine Spec.of_awlS hf61 okf61 (by simp) fun S hS => ?_
    have hlen : t.args.length ≤ 1000 := hN.1
    simp only [encT_eq t, q_wpLs_eq_1, q_wpLs_eq_2, q_wpL_eq_1, q_exL_eq_1, q_exL_eq_5, q_exL_eq_7, q_look_eq_1, q_look_eq_2, q_insT_eq_1, q_insO_eq_1, q_awl_eq_2, q_awl_eq_5, q_awl_eq_7, q_AE_thenL_eq_1, q_initT_eq_1, q_initT_eq_2, q_boxK_eq_1, q_vLits_eq_1, q_bsK_eq_1, q_freeB_eq_1, q_freeT_eq_1, q_freeT_eq_2, q_freeO_eq_1, q_freeO_eq_2, q_V_noRef_eq_1, q_V_noRef_eq_2, q_K_noRef_eq_1, q_K_noRef_eq_3, q_O_noRef_eq_1, q_List_map_cons, q_List_map_nil, q_List_foldl_nil, q_List_replicate_zero, q_List_length_cons, q_List_length_nil, q_List_all_cons, q_List_all_nil, true_and, false_implies, implies_true, bne_iff_ne, ne_eq, Bool.and_true, Bool.true_and, Bool.or_true, Bool.false_or, Nat.reduceEqDiff, Nat.reduceBEq, Nat.zero_add, not_false_eq_true, lookT_here, List.not_mem_nil, implies_true, uf61, uf61b48, uf61r49, uf61b50, uf61b51, uf61r52, uf61b53, uf61r54, uf61b55]
    rw [uf61l47]
    refine awl_loop (fun x : Nat × List Int => [(1, .k (.ptr 1 0)), (4, .k (.own 11)), (5, .int .i64 x.1)])
      (fun x => [(1, .var 41 [.c (.int .i64 t.op), .c (.int .i64 t.n), .c (lstC 3 (t.args.map encT))]), (11, .arr 3 1 (some false) (ints x.2))])
      (fun x => x.1 ≤ t.args.length ∧ x.2.length = x.1 ∧ chkA (t.args.drop x.1) x.2 = chkA t.args [] ∧ (∀ y ∈ x.2, y = 0 ∨ y = 1)) (fun x => t.args.length - x.1) (0, []) rfl rfl ⟨Nat.zero_le _, rfl, rfl, by simp⟩ ?_
    rintro ⟨i, ty⟩ ⟨hi, hty, hj, hb⟩
    simp only [] at hi hty hj hb
    by_cases hlt : i < t.args.length
    · have c1 : (i : Int) < t.args.length := by omega
      have c4 : IntKind.i64.wrap ((i : Int) + 1) = (i : Int) + 1 := wrap_in (by omega) (by omega)
      simp only [map_at hlt, encT_len, c1, q_wpLs_eq_1, q_wpLs_eq_2, q_wpL_eq_1, q_exL_eq_1, q_exL_eq_8, q_exL_eq_11, q_exL_eq_21, q_exL_eq_23, q_exL_eq_28, q_exL_eq_30, q_look_eq_1, q_insT_eq_1, q_awl_eq_1, q_awl_eq_2, q_awl_eq_5, q_awl_eq_6, q_awl_eq_7, q_AE_thenL_eq_1, q_putK_eq_1, q_vBin_eq_1, q_resV_eq_1, q_binV_eq_1, q_binInt_eq_3, q_cutInt_eq_8, q_vFaddr_eq_1, q_partV_eq_1, q_loadO_eq_1, q_isV_eq_1, q_vLoad_eq_1, q_vLoad_eq_2, q_ofRow_eq_1, q_pureRow_eq_1, q_pureRow_eq_2, q_isVarO_eq_1, q_Option_map_some, q_List_map_cons, q_List_map_nil, q_List_take_succ_cons, q_List_take_zero, q_List_drop_succ_cons, q_List_drop_zero, q_List_length_cons, q_List_length_nil, true_and, if_true, if_false, Bool.false_eq_true, and_self, Nat.reduceAdd, Nat.reduceBEq, Nat.zero_add, Int.toNat_natCast, Nat.le_refl, Int.natCast_nonneg, q_learn_eq_1, q_condK_eq_1, q_condB_eq_1, decide_true, r_vLen_lst, r_vIaddr_lst, List.length_map, lookT_here, lookT_next, lookO_here, uf61r31, uf61r39, uf61b40, uf61b41, uf61b42, uf61b43, uf61r44, uf61b45, uf61b46]
      refine call_s (ih t.args[i] (hN.2 _ (List.getElem_mem hlt))) ?_
      simp only [c4, pairV, q_wpLs_eq_1, q_wpLs_eq_2, q_wpL_eq_1, q_exL_eq_1, q_exL_eq_7, q_exL_eq_11, q_exL_eq_27, q_exL_eq_33, q_look_eq_1, q_look_eq_2, q_insT_eq_1, q_insO_eq_1, q_awl_eq_1, q_awl_eq_2, q_awl_eq_5, q_awl_eq_6, q_awl_eq_10, q_AE_thenL_eq_1, q_AE_thenL_eq_3, q_AE_inBlockL_eq_1, q_AE_inBlockL_eq_3, q_putK_eq_1, q_vBin_eq_1, q_resV_eq_1, q_binV_eq_1, q_binInt_eq_3, q_cutInt_eq_1, q_cutInt_eq_7, q_vExtr_eq_1, q_nlApp_eq_2, q_vRow_eq_1, q_vLits_eq_1, q_vLits_eq_2, q_bsK_eq_1, q_srcO_eq_1, q_srcV_eq_2, q_appK_eq_1, q_appendK_eq_1, q_mapT_eq_1, q_mapT_eq_2, q_mapO_eq_1, q_mapO_eq_2, q_delO_eq_1, q_delO_eq_2, q_freeB_eq_1, q_freeT_eq_1, q_freeT_eq_2, q_freeO_eq_1, q_freeO_eq_2, q_V_noRef_eq_1, q_V_noRef_eq_2, q_V_noRef_eq_4, q_K_noRef_eq_1, q_K_noRef_eq_2, q_K_noRef_eq_3, q_K_noRef_eq_5, q_O_noRef_eq_1, q_O_noRef_eq_2, q_V_noRefL_eq_1, q_V_noRefL_eq_2, q_V_scrub_eq_1, q_V_scrub_eq_3, q_V_scrub_eq_5, q_K_scrub_eq_1, q_K_scrub_eq_2, q_K_scrub_eq_5, q_O_scrub_eq_1, q_O_scrub_eq_2, q_endK_eq_2, q_endL_eq_1, q_endV_eq_1, q_resL_eq_1, q_resL_eq_2, q_resX_eq_1, q_one_eq_2, q_V_nrm_eq_1, q_V_nrm_eq_2, q_V_nrm_eq_4, q_K_nrm_eq_1, q_K_nrm_eq_2, q_K_nrm_eq_3, q_V_nrmL_eq_1, q_V_nrmL_eq_2, q_O_nrm_eq_1, q_O_nrm_eq_2, q_V_owns_eq_1, q_V_owns_eq_3, q_K_owns_eq_2, q_V_ownsL_eq_1, q_V_ownsL_eq_2, q_V_toNew_eq_1, q_V_toNew_eq_4, q_K_toNew_eq_1, q_V_toNewL_eq_1, q_V_toNewL_eq_2, q_C_norm_eq_4, q_C_norm_eq_5, q_List_map_cons, q_List_map_nil, q_List_foldl_cons, q_List_foldl_nil, q_List_replicate_succ, q_List_replicate_zero, q_List_set_cons_zero, q_List_length_cons, q_List_length_nil, q_List_getElemQ_cons_zero, q_List_getElemQ_cons_succ, q_List_all_cons, q_List_all_nil, true_and, if_true, if_false, forall_eq, or_false, and_self, bne_iff_ne, ne_eq, Bool.and_eq_true, Bool.and_true, Bool.true_and, Bool.or_true, Bool.false_or, List.append_nil, List.mem_cons, List.nodup_nil, Nat.reduceEqDiff, Nat.reduceLeDiff, Nat.reduceLT, Nat.reduceBEq, Nat.zero_add, q_learn_eq_1, not_false_eq_true, q_condK_eq_1, condB_bne, norm_lst, normRows_T, normRows_ints, encT_norm, ints_len, lookT_here, lookT_next, lookO_here, lookO_next, List.not_mem_nil, uf61r32, uf61r33, uf61b34, uf61b35, uf61r36, uf61b37, uf61b38]
      refine ⟨fun h6 => ?_, fun h6 => ?_⟩
      · rw [chkA_drop hlt, if_pos h6] at hj
        refine fin hS ?_
        rw [chk_eq t, ← hj]
        simp [h6, pairV]
      · refine ⟨by omega, by omega, Next.intro (i + 1, ty ++ [(chk t.args[i]).1]) rfl (by rw [ints_snoc]; rfl) ⟨by simp only []; omega, by simp [hty], ?_, ?_⟩ (by simp only []; omega)⟩
        · rw [chkA_drop hlt, if_neg (by simp [h6])] at hj
          exact hj
        · intro y hy
          rcases List.mem_append.1 hy with hy | hy
          · exact hb y hy
          · simp at hy; rw [hy]; exact chk_ty _
    · have c1 : ¬ (i : Int) < t.args.length := by omega
      simp only [c1, q_wpLs_eq_1, q_wpLs_eq_2, q_wpL_eq_1, q_putDL_eq_1, q_AOp_dst_eq_8, q_AOp_dst_eq_10, q_AOp_dst_eq_20, q_exL_eq_1, q_exL_eq_3, q_exL_eq_8, q_exL_eq_11, q_exL_eq_21, q_exL_eq_28, q_exL_eq_30, q_look_eq_1, q_look_eq_2, q_insT_eq_1, q_awl_eq_1, q_awl_eq_2, q_awl_eq_5, q_awl_eq_6, q_awl_eq_9, q_awl_eq_10, q_AE_thenL_eq_1, q_AE_thenL_eq_2, q_AE_thenL_eq_3, q_AE_inBlockL_eq_2, q_putK_eq_1, q_vBin_eq_1, q_resV_eq_1, q_binV_eq_1, q_binInt_eq_3, q_cutInt_eq_8, q_cutInt_eq_11, q_vFaddr_eq_1, q_loadO_eq_1, q_isV_eq_1, q_vLoad_eq_1, q_vPick_eq_1, q_vPick_eq_2, q_ofRow_eq_1, q_pureRow_eq_1, q_pureRow_eq_2, q_isVarO_eq_1, q_mapT_eq_1, q_mapT_eq_2, q_mapO_eq_1, q_mapO_eq_2, q_endK_eq_2, q_endL_eq_1, q_endV_eq_1, q_resL_eq_1, q_resL_eq_2, q_resX_eq_1, q_one_eq_2, q_V_nrm_eq_1, q_V_nrm_eq_5, q_K_nrm_eq_1, q_K_nrm_eq_3, q_O_nrm_eq_1, q_O_nrm_eq_2, q_V_owns_eq_1, q_V_owns_eq_3, q_K_owns_eq_2, q_V_ownsL_eq_1, q_V_ownsL_eq_2, q_V_toNew_eq_1, q_V_toNew_eq_4, q_K_toNew_eq_1, q_V_toNewL_eq_1, q_V_toNewL_eq_2, q_C_norm_eq_4, q_C_norm_eq_5, q_Bool_not_false, q_Option_map_some, q_List_map_cons, q_List_map_nil, q_List_take_succ_cons, q_List_take_zero, q_List_drop_succ_cons, q_List_drop_zero, q_List_length_cons, q_List_length_nil, true_and, if_true, if_false, Bool.false_eq_true, and_self, List.append_nil, List.nodup_nil, Nat.reduceAdd, Nat.reduceLeDiff, Nat.reduceBEq, Nat.zero_add, Nat.add_zero, Nat.le_refl, q_learn_eq_1, q_guardP_eq_2, q_condK_eq_1, q_condB_eq_1, q_condB_eq_2, q_exK_eq_1, condB_decide, decide_false, r_vLen_lst, norm_lst, normRows_T, normRows_ints, List.length_map, lookT_here, lookT_next, lookO_here, uf61r23, uf61b24, uf61r25, uf61b26, uf61b27, uf61r28, uf61b29, uf61b30, uf61b43, uf61r44, uf61b45, uf61b46]
      rw [List.drop_eq_nil_of_le (by omega), chkA] at hj
      have e : chk t = node t ty := by rw [chk_eq t, ← hj]; simp
      rw [e] at hS
      clear ih hj e
      have hlt2 : ty.length = t.args.length := by omega
      refine ⟨fun h => ?_, fun h1 => ⟨fun h => ?_, fun h2 => ?_⟩⟩
      · exact fin hS (by simp only [node, if_pos (Or.inl h : t.op < 0 ∨ t.op > 13)]; rfl)
      · exact fin hS (by simp only [node, if_pos (Or.inr (by omega) : t.op < 0 ∨ t.op > 13)]; rfl)
      have a1 : ¬ (t.op < 0 ∨ t.op > 13) := by omega
      refine call_s (s73 t.op) ?_
      simp only [q_wpLs_eq_1, q_wpLs_eq_2, q_wpL_eq_1, q_putDL_eq_1, q_AOp_dst_eq_1, q_AOp_dst_eq_3, q_AOp_dst_eq_8, q_AOp_dst_eq_10, q_AOp_dst_eq_20, q_exL_eq_1, q_exL_eq_3, q_exL_eq_8, q_exL_eq_11, q_exL_eq_21, q_exL_eq_28, q_exL_eq_30, q_look_eq_1, q_look_eq_2, q_insT_eq_1, q_awl_eq_1, q_awl_eq_2, q_awl_eq_5, q_awl_eq_6, q_awl_eq_10, q_AE_thenL_eq_1, q_AE_thenL_eq_3, q_putK_eq_1, q_vBin_eq_1, q_resV_eq_1, q_binV_eq_1, q_binInt_eq_3, q_cutInt_eq_6, q_cutInt_eq_7, q_cutInt_eq_10, q_vLen_eq_2, q_lenO_eq_1, q_vFaddr_eq_1, q_loadO_eq_1, q_isV_eq_1, q_vLoad_eq_1, q_vPick_eq_1, q_vPick_eq_2, q_vPick_eq_3, q_ofRow_eq_1, q_ofRow_eq_2, q_pureRow_eq_1, q_pureRow_eq_2, q_isVarO_eq_1, q_mapT_eq_1, q_mapT_eq_2, q_mapO_eq_1, q_mapO_eq_2, q_endK_eq_2, q_endL_eq_1, q_endV_eq_1, q_resL_eq_1, q_resL_eq_2, q_resX_eq_1, q_one_eq_2, q_V_nrm_eq_1, q_V_nrm_eq_5, q_K_nrm_eq_1, q_K_nrm_eq_3, q_O_nrm_eq_1, q_O_nrm_eq_2, q_V_owns_eq_1, q_V_owns_eq_3, q_K_owns_eq_2, q_V_ownsL_eq_1, q_V_ownsL_eq_2, q_V_toNew_eq_1, q_V_toNew_eq_4, q_K_toNew_eq_1, q_V_toNewL_eq_1, q_V_toNewL_eq_2, q_C_norm_eq_4, q_C_norm_eq_5, q_Bool_not_true, q_Bool_not_false, q_Option_map_some, q_List_map_cons, q_List_map_nil, q_List_take_succ_cons, q_List_take_zero, q_List_drop_succ_cons, q_List_drop_zero, q_List_length_cons, q_List_length_nil, true_and, if_true, if_false, Bool.false_eq_true, and_self, List.append_nil, List.nodup_nil, Nat.reduceAdd, Nat.reduceLeDiff, Nat.reduceBEq, Nat.zero_add, Nat.add_zero, Nat.le_refl, q_learn_eq_1, q_guardP_eq_1, q_guardP_eq_2, q_guardP_eq_3, q_condK_eq_1, q_condB_eq_1, q_condB_eq_2, q_exK_eq_1, condB_decide, condB_beq, condB_bne, norm_lst, normRows_T, normRows_ints, ints_len, lookT_here, lookT_next, lookO_here, lookO_next, uf61r9, uf61b10, uf61r11, uf61b12, uf61b13, uf61r14, uf61b15, uf61b16, uf61r17, uf61b18, uf61b19, uf61r20, uf61b21, uf61b22]
      by_cases hop : t.op = 0 ∨ t.op = 1 ∨ t.op = 2
      · have har : arity t.op = 0 := by rw [arity, if_pos hop]
        have hnode : node t ty = leaf t := by simp only [node, if_neg a1, if_pos hop]
        simp only [har, true_and, and_true, false_implies, forall_const, BEq.rfl, not_true_eq_false, not_false_eq_true, decide_false, Int.reduceGT]
        refine ⟨fun h => ?_, fun h => ?_⟩
        · refine fin hS ?_
          rw [hnode, leaf, if_pos (by omega)]; rfl
        · have h0 : t.args = [] := List.eq_nil_of_length_eq_zero (by omega)
          refine call_s (s74 t h0 (by omega) (by omega)) ?_
          simp only [pairV, q_wpLs_eq_1, q_wpLs_eq_2, q_wpL_eq_1, q_exL_eq_1, q_exL_eq_27, q_look_eq_1, q_insT_eq_1, q_awl_eq_10, q_AE_thenL_eq_3, q_putK_eq_1, q_vExtr_eq_1, q_mapT_eq_1, q_mapT_eq_2, q_mapO_eq_1, q_mapO_eq_2, q_endK_eq_2, q_endL_eq_1, q_endV_eq_1, q_resL_eq_1, q_resL_eq_2, q_resX_eq_1, q_one_eq_2, q_V_nrm_eq_1, q_V_nrm_eq_2, q_V_nrm_eq_4, q_V_nrm_eq_5, q_K_nrm_eq_1, q_K_nrm_eq_3, q_V_nrmL_eq_1, q_V_nrmL_eq_2, q_O_nrm_eq_1, q_O_nrm_eq_2, q_V_owns_eq_1, q_V_owns_eq_3, q_K_owns_eq_2, q_V_ownsL_eq_1, q_V_ownsL_eq_2, q_V_toNew_eq_1, q_V_toNew_eq_4, q_K_toNew_eq_1, q_V_toNewL_eq_1, q_V_toNewL_eq_2, q_C_norm_eq_4, q_C_norm_eq_5, q_C_normRow_eq_1, q_C_normRow_eq_2, q_List_map_cons, q_List_map_nil, q_List_getElemQ_cons_zero, q_List_getElemQ_cons_succ, true_and, and_self, List.append_nil, List.nodup_nil, Nat.reduceBEq, norm_lst, normRows_T, normRows_ints, lookT_here, lookT_next]
          exact fin hS (by rw [hnode]; rfl)
      · have hsh := arity_shape (op := t.op) (by omega)
        have har : arity t.op ≠ 0 := by rw [hsh, shape_len (by omega)]; (repeat' split) <;> simp
        have har2 : arity t.op > 0 := by rw [hsh, shape_len (by omega)]; (repeat' split) <;> simp
        simp only [har, har2, true_and, and_true, false_implies, forall_const, not_true_eq_false, not_false_eq_true, decide_true]
        refine ⟨fun h => ?_, fun h => ⟨fun h3 => ?_, fun h3 => ?_⟩⟩
        · refine fin hS ?_
          simp only [node, if_neg a1, if_neg hop, if_pos (Or.inl (by omega) : ty.length ≠ (shapeArgs t.op).length ∨ t.n ≠ 0)]; rfl
        · refine fin hS ?_
          simp only [node, if_neg a1, if_neg hop, if_pos (Or.inr h3 : ty.length ≠ (shapeArgs t.op).length ∨ t.n ≠ 0)]; rfl
        · refine call_s (s75 t.op ty (by omega) (by omega)) ?_
          rw [node_typed t ty hb (by omega) (by omega) (by omega) (by omega) h3] at hS
          by_cases hk : kindB t.op ty = true
          · rw [if_pos hk] at hS
            simp only [hk, q_wpLs_eq_1, q_wpLs_eq_2, q_wpL_eq_1, q_exL_eq_1, q_exL_eq_15, q_exL_eq_27, q_look_eq_1, q_look_eq_2, q_insT_eq_1, q_awl_eq_1, q_awl_eq_2, q_awl_eq_5, q_awl_eq_6, q_awl_eq_10, q_AE_thenL_eq_1, q_putK_eq_1, q_vUn_eq_1, q_unV_eq_2, q_mapC_eq_1, q_vExtr_eq_1, q_mapT_eq_1, q_mapT_eq_2, q_mapO_eq_1, q_mapO_eq_2, q_endK_eq_2, q_endL_eq_1, q_endV_eq_1, q_resL_eq_1, q_resL_eq_2, q_resX_eq_1, q_one_eq_2, q_V_nrm_eq_1, q_V_nrm_eq_4, q_K_nrm_eq_1, q_K_nrm_eq_3, q_V_nrmL_eq_1, q_V_nrmL_eq_2, q_O_nrm_eq_1, q_O_nrm_eq_2, q_V_owns_eq_1, q_V_owns_eq_3, q_K_owns_eq_2, q_V_ownsL_eq_1, q_V_ownsL_eq_2, q_V_toNew_eq_1, q_V_toNew_eq_4, q_K_toNew_eq_1, q_V_toNewL_eq_1, q_V_toNewL_eq_2, q_C_norm_eq_4, q_C_norm_eq_5, q_Bool_not_true, q_List_map_cons, q_List_map_nil, q_List_getElemQ_cons_zero, q_List_getElemQ_cons_succ, true_and, and_self, List.append_nil, List.nodup_nil, Nat.reduceBEq, q_learn_eq_1, q_condK_eq_1, q_condB_eq_2, norm_lst, normRows_T, normRows_ints, lookT_here, lookT_next, uf61r1, uf61b2, uf61b5, uf61r6, uf61b7, uf61b8]
            exact fin hS rfl
          · rw [if_neg hk] at hS
            have hk : kindB t.op ty = false := by simpa using hk
            simp only [hk, q_wpLs_eq_1, q_wpLs_eq_2, q_wpL_eq_1, q_exL_eq_1, q_exL_eq_15, q_exL_eq_27, q_look_eq_1, q_look_eq_2, q_insT_eq_1, q_awl_eq_2, q_awl_eq_5, q_awl_eq_6, q_awl_eq_10, q_AE_thenL_eq_1, q_AE_thenL_eq_3, q_putK_eq_1, q_vUn_eq_1, q_unV_eq_2, q_mapC_eq_1, q_vExtr_eq_1, q_mapT_eq_1, q_mapT_eq_2, q_mapO_eq_1, q_mapO_eq_2, q_endK_eq_2, q_endL_eq_1, q_endV_eq_1, q_resL_eq_1, q_resL_eq_2, q_resX_eq_1, q_one_eq_2, q_V_nrm_eq_1, q_V_nrm_eq_4, q_K_nrm_eq_1, q_K_nrm_eq_3, q_V_nrmL_eq_1, q_V_nrmL_eq_2, q_O_nrm_eq_1, q_O_nrm_eq_2, q_V_owns_eq_1, q_V_owns_eq_3, q_K_owns_eq_2, q_V_ownsL_eq_1, q_V_ownsL_eq_2, q_V_toNew_eq_1, q_V_toNew_eq_4, q_K_toNew_eq_1, q_V_toNewL_eq_1, q_V_toNewL_eq_2, q_C_norm_eq_4, q_C_norm_eq_5, q_Bool_not_false, q_List_map_cons, q_List_map_nil, q_List_getElemQ_cons_zero, q_List_getElemQ_cons_succ, true_and, and_self, List.append_nil, List.nodup_nil, Nat.reduceBEq, q_learn_eq_1, q_condK_eq_1, q_condB_eq_1, norm_lst, normRows_T, normRows_ints, lookT_here, lookT_next, uf61r3, uf61b4, uf61b5, uf61r6, uf61b7, uf61b8]
            exact fin hS rfl
theorem s32 (t : Term) : Spec Try.prog 32 [.agg (encT t)] (fun r => r = pairV (checkT t)) := by
  refine Spec.of_awlS hf32 okf32 (by simp) fun S hS => ?_
  simp only [q_wpLs_eq_1, q_wpLs_eq_2, q_wpL_eq_1, q_exL_eq_1, q_exL_eq_5, q_exL_eq_8, q_exL_eq_28, q_look_eq_1, q_look_eq_2, q_insT_eq_1, q_insO_eq_1, q_awl_eq_2, q_awl_eq_5, q_AE_thenL_eq_1, q_initT_eq_1, q_initT_eq_2, q_putK_eq_1, q_loadO_eq_1, q_isV_eq_1, q_vLoad_eq_1, q_boxK_eq_1, q_freeB_eq_1, q_freeT_eq_1, q_freeT_eq_2, q_freeO_eq_1, q_V_noRef_eq_2, q_List_map_cons, q_List_map_nil, q_List_drop_zero, true_and, Bool.and_true, Bool.or_true, Nat.reduceBEq, Nat.zero_add, Nat.le_refl, List.length_map, r_ofRow_take, encT_len, lookT_here, lookT_next, lookO_here, uf32, uf32r6, uf32b7, uf32b8, uf32r9, uf32b10]
  refine call_s (s58 8 t 60 (by omega) (by omega) (by omega)) ?_
  simp only [q_wpLs_eq_1, q_wpLs_eq_2, q_wpL_eq_1, q_exL_eq_1, q_exL_eq_8, q_exL_eq_11, q_exL_eq_28, q_look_eq_1, q_look_eq_2, q_insT_eq_1, q_awl_eq_1, q_awl_eq_2, q_awl_eq_5, q_awl_eq_6, q_awl_eq_10, q_AE_thenL_eq_1, q_AE_thenL_eq_3, q_putK_eq_1, q_vBin_eq_1, q_resV_eq_1, q_binV_eq_1, q_binInt_eq_3, q_cutInt_eq_8, q_loadO_eq_1, q_isV_eq_1, q_vLoad_eq_1, q_mapT_eq_1, q_mapT_eq_2, q_mapO_eq_1, q_mapO_eq_2, q_endK_eq_2, q_endL_eq_1, q_endV_eq_1, q_resL_eq_1, q_resL_eq_2, q_resX_eq_1, q_one_eq_2, q_V_nrm_eq_1, q_V_nrm_eq_2, q_K_nrm_eq_1, q_K_nrm_eq_3, q_O_nrm_eq_1, q_V_owns_eq_1, q_V_owns_eq_3, q_K_owns_eq_2, q_V_ownsL_eq_1, q_V_ownsL_eq_2, q_V_toNew_eq_1, q_V_toNew_eq_4, q_K_toNew_eq_1, q_V_toNewL_eq_1, q_V_toNewL_eq_2, q_C_norm_eq_4, q_C_norm_eq_5, q_List_map_cons, q_List_map_nil, q_List_drop_zero, true_and, if_true, and_self, List.append_nil, List.nodup_nil, Nat.reduceBEq, Nat.zero_add, Nat.le_refl, q_learn_eq_1, q_condK_eq_1, condB_decide, encT_norm, List.length_map, r_ofRow_take, encT_len, lookT_here, lookT_next, Int.cast_ofNat_Int, lookO_here, r_map_nrm, uf32r1, uf32b2, uf32r3, uf32b4, uf32b5]
  refine ⟨fun h => ?_, fun h => ?_⟩
  · refine fin hS ?_
    rw [checkT, if_pos h]; rfl
  · refine call_s (s61 8 t (narrow_of 8 t 60 (by omega) (by simp; omega))) ?_
    simp only [pairV, q_wpLs_eq_1, q_wpLs_eq_2, q_wpL_eq_1, q_exL_eq_1, q_exL_eq_27, q_look_eq_1, q_insT_eq_1, q_awl_eq_10, q_putK_eq_1, q_vExtr_eq_1, q_mapT_eq_1, q_mapT_eq_2, q_mapO_eq_1, q_mapO_eq_2, q_endK_eq_2, q_endL_eq_1, q_endV_eq_1, q_resL_eq_1, q_resL_eq_2, q_resX_eq_1, q_one_eq_2, q_V_nrm_eq_1, q_V_nrm_eq_2, q_V_nrm_eq_4, q_K_nrm_eq_1, q_K_nrm_eq_3, q_V_nrmL_eq_1, q_V_nrmL_eq_2, q_O_nrm_eq_1, q_V_owns_eq_1, q_V_owns_eq_3, q_K_owns_eq_2, q_V_ownsL_eq_1, q_V_ownsL_eq_2, q_V_toNew_eq_1, q_V_toNew_eq_4, q_K_toNew_eq_1, q_V_toNewL_eq_1, q_V_toNewL_eq_2, q_C_norm_eq_4, q_C_norm_eq_5, q_List_getElemQ_cons_zero, q_List_getElemQ_cons_succ, true_and, and_self, List.append_nil, List.nodup_nil, Nat.reduceBEq, encT_norm, lookT_here, lookT_next, r_map_nrm]
    refine fin hS ?_
    rw [checkT, if_neg h]; rfl
theorem s63 : ∀ (t : Term) (v : Int), Spec Try.prog 63 [.agg (encT t), .int .i64 v] (fun r => r = .bool (used t v)) := by
  refine Term.ind fun o n a ih v => ?_
  generalize ht : Term.mk o n a = t
  have ha : a = t.args := by rw [← ht]; rfl
  rw [ha] at ih
  clear ht ha o n a
  refine Spec.of_len hf63 fun hlen => ?_
  replace hlen : t.args.length ≤ 9223372036854775807 := by
    have := hlen (.agg (encT t)) (by simp) (lstC 3 (t.args.map encT)) (by rw [encT_eq]; simp [V.topC]) _ _ _ rfl
    simpa using this
  refine Spec.of_awlS hf63 okf63 (by simp) fun S hS => ?_
  rw [used_eq] at hS
  by_cases h2 : t.op = 2
  · rw [if_pos h2] at hS
    simp only [encT_eq t, h2, q_wpLs_eq_1, q_wpLs_eq_2, q_wpL_eq_1, q_exL_eq_1, q_exL_eq_5, q_exL_eq_8, q_exL_eq_11, q_exL_eq_21, q_look_eq_1, q_look_eq_2, q_insT_eq_1, q_insO_eq_1, q_awl_eq_2, q_awl_eq_5, q_awl_eq_6, q_awl_eq_10, q_AE_thenL_eq_1, q_AE_thenL_eq_3, q_initT_eq_1, q_initT_eq_2, q_putK_eq_1, q_vBin_eq_1, q_resV_eq_1, q_binV_eq_1, q_binInt_eq_3, q_cutInt_eq_6, q_vFaddr_eq_1, q_loadO_eq_1, q_isV_eq_1, q_vLoad_eq_1, q_ofRow_eq_1, q_pureRow_eq_1, q_pureRow_eq_2, q_isVarO_eq_1, q_boxK_eq_1, q_mapT_eq_1, q_mapT_eq_2, q_mapO_eq_1, q_mapO_eq_2, q_freeB_eq_1, q_freeT_eq_1, q_freeT_eq_2, q_freeO_eq_1, q_V_noRef_eq_1, q_V_noRef_eq_2, q_K_noRef_eq_1, q_endK_eq_2, q_endL_eq_1, q_endV_eq_1, q_resL_eq_1, q_resL_eq_2, q_resX_eq_1, q_one_eq_1, q_V_nrm_eq_1, q_V_nrm_eq_2, q_K_nrm_eq_1, q_K_nrm_eq_3, q_O_nrm_eq_1, q_V_owns_eq_1, q_K_owns_eq_2, q_V_toNew_eq_1, q_K_toNew_eq_1, q_C_norm_eq_4, q_C_norm_eq_5, q_C_normRow_eq_1, q_C_normRow_eq_2, q_Option_map_some, q_List_map_cons, q_List_map_nil, q_List_take_succ_cons, q_List_take_zero, q_List_drop_succ_cons, q_List_drop_zero, q_List_length_cons, q_List_length_nil, true_and, if_true, if_false, Bool.false_eq_true, and_self, Bool.and_true, Bool.or_true, BEq.rfl, List.nodup_nil, Nat.reduceAdd, Nat.reduceLeDiff, Nat.reduceBEq, Nat.zero_add, Nat.add_zero, q_learn_eq_1, q_condK_eq_1, q_condB_eq_1, norm_lst, normRows_T, lookT_here, lookT_next, lookO_here, uf63, uf63r22, uf63b23, uf63b24, uf63r25, uf63b26, uf63b27, uf63r28, uf63b29]
    refine fin hS ?_
    by_cases h3 : t.n = v <;> simp [h3]
  · rw [if_neg h2] at hS
    simp only [encT_eq t, h2, q_wpLs_eq_1, q_wpLs_eq_2, q_wpL_eq_1, q_exL_eq_1, q_exL_eq_5, q_exL_eq_8, q_exL_eq_11, q_exL_eq_21, q_look_eq_1, q_look_eq_2, q_insT_eq_1, q_insO_eq_1, q_awl_eq_1, q_awl_eq_2, q_awl_eq_5, q_awl_eq_6, q_awl_eq_7, q_awl_eq_10, q_AE_thenL_eq_1, q_AE_thenL_eq_3, q_initT_eq_1, q_initT_eq_2, q_putK_eq_1, q_vBin_eq_1, q_resV_eq_1, q_binV_eq_1, q_binInt_eq_3, q_cutInt_eq_6, q_vFaddr_eq_1, q_loadO_eq_1, q_isV_eq_1, q_vLoad_eq_1, q_ofRow_eq_1, q_pureRow_eq_1, q_pureRow_eq_2, q_isVarO_eq_1, q_boxK_eq_1, q_mapT_eq_1, q_mapT_eq_2, q_mapO_eq_1, q_mapO_eq_2, q_freeB_eq_1, q_freeT_eq_1, q_freeT_eq_2, q_freeO_eq_1, q_V_noRef_eq_1, q_V_noRef_eq_2, q_K_noRef_eq_1, q_endK_eq_2, q_endL_eq_1, q_endV_eq_1, q_resL_eq_1, q_resL_eq_2, q_resX_eq_1, q_one_eq_1, q_V_nrm_eq_1, q_V_nrm_eq_2, q_K_nrm_eq_1, q_K_nrm_eq_3, q_O_nrm_eq_1, q_V_owns_eq_1, q_K_owns_eq_2, q_V_toNew_eq_1, q_K_toNew_eq_1, q_C_norm_eq_4, q_C_norm_eq_5, q_C_normRow_eq_1, q_C_normRow_eq_2, q_Option_map_some, q_List_map_cons, q_List_map_nil, q_List_take_succ_cons, q_List_take_zero, q_List_drop_succ_cons, q_List_drop_zero, q_List_length_cons, q_List_length_nil, true_and, if_true, if_false, Bool.false_eq_true, false_implies, forall_const, and_self, Bool.and_true, Bool.or_true, List.nodup_nil, Nat.reduceAdd, Nat.reduceLeDiff, Nat.reduceBEq, Nat.zero_add, Nat.add_zero, q_learn_eq_1, not_false_eq_true, q_condK_eq_1, condB_beq, norm_lst, normRows_T, lookT_here, lookT_next, lookO_here, uf63, uf63b18, uf63r19, uf63b20, uf63b21, uf63r22, uf63b23, uf63b24, uf63r25, uf63b26, uf63b27, uf63r28, uf63b29]
    rw [uf63l17]
    refine awl_loop (fun i : Nat => [(1, .int .i64 v), (2, .k (.ptr 2 0)), (5, .int .i64 i)])
      (fun x => [(2, .var 41 [.c (.int .i64 t.op), .c (.int .i64 t.n), .c (lstC 3 (t.args.map encT))])])
      (fun i => i ≤ t.args.length ∧ usedL (t.args.drop i) v = usedL t.args v) (fun i => t.args.length - i) 0 rfl rfl ⟨Nat.zero_le _, rfl⟩ ?_
    rintro i ⟨hi, hj⟩
    by_cases hlt : i < t.args.length
    · have c1 : (i : Int) < t.args.length := by omega
      have c4 : IntKind.i64.wrap ((i : Int) + 1) = (i : Int) + 1 := wrap_in (by omega) (by omega)
      simp only [map_at hlt, encT_len, c1, q_wpLs_eq_1, q_wpLs_eq_2, q_wpL_eq_1, q_exL_eq_1, q_exL_eq_8, q_exL_eq_11, q_exL_eq_21, q_exL_eq_23, q_exL_eq_28, q_exL_eq_30, q_look_eq_1, q_insT_eq_1, q_awl_eq_1, q_awl_eq_2, q_awl_eq_5, q_awl_eq_6, q_awl_eq_7, q_AE_thenL_eq_1, q_putK_eq_1, q_vBin_eq_1, q_resV_eq_1, q_binV_eq_1, q_binInt_eq_3, q_cutInt_eq_8, q_vFaddr_eq_1, q_partV_eq_1, q_loadO_eq_1, q_isV_eq_1, q_vLoad_eq_1, q_vLoad_eq_2, q_ofRow_eq_1, q_pureRow_eq_1, q_pureRow_eq_2, q_isVarO_eq_1, q_Option_map_some, q_List_map_cons, q_List_map_nil, q_List_take_succ_cons, q_List_take_zero, q_List_drop_succ_cons, q_List_drop_zero, q_List_length_cons, q_List_length_nil, true_and, if_true, if_false, Bool.false_eq_true, and_self, Nat.reduceAdd, Nat.reduceBEq, Nat.zero_add, Int.toNat_natCast, Nat.le_refl, Int.natCast_nonneg, q_learn_eq_1, q_condK_eq_1, q_condB_eq_1, decide_true, r_vLen_lst, r_vIaddr_lst, List.length_map, lookT_here, lookT_next, lookO_here, uf63r3, uf63r9, uf63b10, uf63b11, uf63b12, uf63b13, uf63r14, uf63b15, uf63b16]
      refine call_s (ih t.args[i] (List.getElem_mem hlt) v) ?_
      rw [usedL_drop hlt] at hj
      cases hu : used t.args[i] v
      · rw [hu, if_neg (by simp)] at hj
        simp only [c4, hu, q_wpLs_eq_1, q_wpLs_eq_2, q_wpL_eq_1, q_exL_eq_1, q_exL_eq_11, q_look_eq_1, q_look_eq_2, q_insT_eq_1, q_awl_eq_1, q_awl_eq_2, q_awl_eq_5, q_awl_eq_6, q_AE_thenL_eq_1, q_AE_inBlockL_eq_1, q_putK_eq_1, q_vBin_eq_1, q_resV_eq_1, q_binV_eq_1, q_binInt_eq_3, q_cutInt_eq_1, true_and, if_true, Nat.reduceBEq, q_learn_eq_1, q_condK_eq_1, q_condB_eq_2, lookT_here, lookT_next, uf63b6, uf63r7, uf63b8]
        exact Next.intro (i + 1) rfl rfl ⟨by omega, hj⟩ (by omega)
      · rw [hu, if_pos rfl] at hj
        simp only [c4, hu, q_wpLs_eq_1, q_wpLs_eq_2, q_wpL_eq_1, q_exL_eq_1, q_look_eq_1, q_look_eq_2, q_insT_eq_1, q_awl_eq_2, q_awl_eq_5, q_awl_eq_6, q_awl_eq_10, q_AE_thenL_eq_1, q_AE_thenL_eq_3, q_AE_inBlockL_eq_3, q_mapT_eq_1, q_mapT_eq_2, q_mapO_eq_1, q_mapO_eq_2, q_endK_eq_2, q_endL_eq_1, q_endV_eq_1, q_resL_eq_1, q_resL_eq_2, q_resX_eq_1, q_one_eq_1, q_V_nrm_eq_1, q_V_nrm_eq_2, q_K_nrm_eq_1, q_K_nrm_eq_2, q_K_nrm_eq_3, q_O_nrm_eq_1, q_V_owns_eq_1, q_K_owns_eq_2, q_V_toNew_eq_1, q_K_toNew_eq_1, q_C_norm_eq_4, q_C_norm_eq_5, q_List_map_cons, q_List_map_nil, true_and, and_self, List.nodup_nil, q_learn_eq_1, q_condK_eq_1, q_condB_eq_1, norm_lst, normRows_T, encT_norm, lookT_here, uf63r4, uf63b5, uf63b6, uf63r7, uf63b8]
        exact fin hS (by rw [← hj])
    · have c1 : ¬ (i : Int) < t.args.length := by omega
      simp only [c1, q_wpLs_eq_1, q_wpLs_eq_2, q_wpL_eq_1, q_exL_eq_1, q_exL_eq_8, q_exL_eq_11, q_exL_eq_21, q_exL_eq_30, q_look_eq_1, q_look_eq_2, q_insT_eq_1, q_awl_eq_2, q_awl_eq_5, q_awl_eq_6, q_awl_eq_9, q_awl_eq_10, q_AE_thenL_eq_1, q_AE_thenL_eq_2, q_AE_inBlockL_eq_2, q_putK_eq_1, q_vBin_eq_1, q_resV_eq_1, q_binV_eq_1, q_binInt_eq_3, q_cutInt_eq_8, q_vFaddr_eq_1, q_loadO_eq_1, q_isV_eq_1, q_vLoad_eq_1, q_ofRow_eq_1, q_pureRow_eq_1, q_pureRow_eq_2, q_isVarO_eq_1, q_mapT_eq_1, q_mapT_eq_2, q_mapO_eq_1, q_mapO_eq_2, q_endK_eq_2, q_endL_eq_1, q_endV_eq_1, q_resL_eq_1, q_resL_eq_2, q_resX_eq_1, q_one_eq_1, q_V_nrm_eq_1, q_K_nrm_eq_1, q_K_nrm_eq_3, q_O_nrm_eq_1, q_V_owns_eq_1, q_K_owns_eq_2, q_V_toNew_eq_1, q_K_toNew_eq_1, q_C_norm_eq_4, q_C_norm_eq_5, q_Option_map_some, q_List_map_cons, q_List_map_nil, q_List_take_succ_cons, q_List_take_zero, q_List_drop_succ_cons, q_List_drop_zero, q_List_length_cons, q_List_length_nil, true_and, if_true, if_false, Bool.false_eq_true, and_self, List.nodup_nil, Nat.reduceAdd, Nat.reduceBEq, Nat.zero_add, Nat.le_refl, q_learn_eq_1, q_condK_eq_1, q_condB_eq_2, decide_false, r_vLen_lst, norm_lst, normRows_T, List.length_map, lookT_here, lookT_next, lookO_here, uf63r1, uf63b2, uf63b13, uf63r14, uf63b15, uf63b16]
      rw [List.drop_eq_nil_of_le (by omega), usedL] at hj
      exact fin hS (by rw [← hj])
end Go.Abs

set_option maxRecDepth 100000
set_option maxHeartbeats 4000000
namespace Go.Abs
open Go.Proofs
def kindsC (f : Nat → Int) : List C := (List.range 22).map fun q => .int .i64 (f q)
theorem kindsC_len (f : Nat → Int) : (kindsC f).length = 22 := by simp [kindsC]
def k1 (i q : Nat) : Int := if q < i then 1 else 0
def k2 (j q : Nat) : Int := if q ∈ [6, 7, 10, 12, 13, 14, 15, 16, 20, 21].take j then 0 else 1
def asks : List Int := [6, 7, 10, 12, 13, 14, 15, 16, 20, 21]
def kindsRow : List C := kindsC fun q => qtype q
abbrev rowZ : List K := (kindsC fun _ => 0).map .c
theorem s44 : Spec Try.prog 44 [] (fun r => r = .agg kindsRow) := by
  refine Spec.of_awlS hf44 okf44 (by simp) fun S hS => ?_
  simp only [q_wpLs_eq_1, q_wpLs_eq_2, q_wpL_eq_1, q_exL_eq_1, q_exL_eq_4, q_look_eq_2, q_insT_eq_1, q_insO_eq_1, q_awl_eq_2, q_awl_eq_5, q_awl_eq_7, q_AE_thenL_eq_1, q_initT_eq_1, q_freeB_eq_1, q_freeT_eq_1, q_freeT_eq_2, q_freeO_eq_1, q_freeO_eq_2, q_V_noRef_eq_1, q_K_noRef_eq_1, q_K_noRef_eq_3, q_O_noRef_eq_1, q_List_map_cons, q_List_map_nil, q_List_all_cons, q_List_all_nil, true_and, bne_iff_ne, ne_eq, Bool.and_true, Bool.or_true, Bool.false_or, Nat.reduceBEq, Nat.zero_ne_one, not_false_eq_true, uf44, uf44b29, uf44r30, uf44b31, uf44b32, uf44r33, uf44b34, uf44r35, uf44b36]
  rw [uf44l28]
  refine awl_loop (fun i : Nat => [(0, .k (.ptr 0 0)), (1, .k (.ptr 1 0)), (5, .int .i64 i)])
    (fun i => [(0, .var 65 rowZ), (1, .var 65 ((kindsC (k1 i)).map .c))]) (fun i => i ≤ 22) (fun i => 22 - i) 0 rfl rfl (Nat.zero_le _) ?_
  intro i hi
  by_cases hlt : i < 22
  · have c1 : (i : Int) < 22 := by omega
    have c4 : IntKind.i64.wrap ((i : Int) + 1) = (i : Int) + 1 := wrap_in (by omega) (by omega)
    have c5 : i + 1 ≤ 22 := by omega
    simp only [c1, c4, c5, kindsC_len, List.length_map, q_wpLs_eq_1, q_wpLs_eq_2, q_wpL_eq_1, q_exL_eq_1, q_exL_eq_9, q_exL_eq_11, q_exL_eq_24, q_look_eq_1, q_look_eq_2, q_insT_eq_1, q_insO_eq_1, q_awl_eq_1, q_awl_eq_2, q_awl_eq_5, q_awl_eq_6, q_awl_eq_7, q_AE_thenL_eq_1, q_AE_inBlockL_eq_1, q_putK_eq_1, q_vBin_eq_1, q_resV_eq_1, q_binV_eq_1, q_binInt_eq_3, q_cutInt_eq_1, q_cutInt_eq_8, q_vIaddrA_eq_1, q_V_cells_eq_1, q_splice_eq_1, q_isVarO_eq_1, q_stVarK_eq_1, q_storeK_eq_1, q_List_length_cons, q_List_length_nil, true_and, if_true, and_self, Nat.reduceBEq, Nat.zero_add, Int.toNat_natCast, Int.natCast_nonneg, q_learn_eq_1, q_condK_eq_1, q_condB_eq_1, decide_true, List.length_map, lookT_here, lookT_next, Int.cast_ofNat_Int, lookO_here, lookO_next, Nat.mul_one, uf44r18, uf44r19, uf44r20, uf44b21, uf44b22, uf44b23, uf44b24, uf44b25, uf44r26, uf44b27]
    refine Next.intro (i + 1) rfl ?_ (by omega) (by omega)
    have h22 : i = 0 ∨ i = 1 ∨ i = 2 ∨ i = 3 ∨ i = 4 ∨ i = 5 ∨ i = 6 ∨ i = 7 ∨ i = 8 ∨ i = 9 ∨ i = 10 ∨ i = 11 ∨ i = 12 ∨ i = 13 ∨ i = 14 ∨ i = 15 ∨ i = 16 ∨ i = 17 ∨ i = 18 ∨ i = 19 ∨ i = 20 ∨ i = 21 := by omega
    rcases h22 with rfl | rfl | rfl | rfl | rfl | rfl | rfl | rfl | rfl | rfl | rfl | rfl | rfl | rfl | rfl | rfl | rfl | rfl | rfl | rfl | rfl | rfl <;> rfl
  · have c1 : ¬ (i : Int) < 22 := by omega
    obtain rfl : i = 22 := by omega
    simp only [c1, q_wpLs_eq_1, q_wpLs_eq_2, q_wpL_eq_1, q_exL_eq_1, q_exL_eq_7, q_exL_eq_11, q_exL_eq_30, q_look_eq_1, q_look_eq_2, q_insT_eq_1, q_insO_eq_1, q_awl_eq_2, q_awl_eq_5, q_awl_eq_6, q_awl_eq_7, q_awl_eq_9, q_AE_thenL_eq_1, q_AE_thenL_eq_2, q_AE_inBlockL_eq_2, q_putK_eq_1, q_vBin_eq_1, q_resV_eq_1, q_binV_eq_1, q_binInt_eq_3, q_cutInt_eq_8, q_vLen_eq_2, q_lenO_eq_1, q_vRow_eq_1, q_vLits_eq_1, q_vLits_eq_2, q_bsK_eq_1, q_freeB_eq_1, q_freeT_eq_1, q_freeT_eq_2, q_freeO_eq_1, q_freeO_eq_2, q_V_noRef_eq_1, q_K_noRef_eq_1, q_K_noRef_eq_3, q_O_noRef_eq_1, q_List_map_cons, q_List_map_nil, q_List_foldl_cons, q_List_foldl_nil, q_List_replicate_succ, q_List_replicate_zero, q_List_set_cons_zero, q_List_set_cons_succ, q_List_length_cons, q_List_length_nil, true_and, if_true, reduceCtorEq, forall_eq_or_imp, forall_eq, or_false, and_self, bne_iff_ne, ne_eq, Bool.and_eq_true, Bool.and_true, Bool.true_and, Bool.or_true, Bool.false_or, List.mem_cons, Nat.reduceAdd, Nat.reduceEqDiff, Nat.reduceLT, Nat.reduceBEq, Nat.zero_add, q_learn_eq_1, not_false_eq_true, q_condK_eq_1, q_condB_eq_2, decide_false, lookT_here, lookT_next, Int.reduceLT, Int.cast_ofNat_Int, lookO_here, List.not_mem_nil, r_all_noRef, uf44b14, uf44r15, uf44b16, uf44b17, uf44b24, uf44b25, uf44r26, uf44b27]
    rw [uf44l13]
    refine awl_loop (fun i : Nat => [(0, .k (.ptr 0 0)), (1, .k (.ptr 1 0)), (11, .k (.own 11)), (12, .int .i64 10), (13, .int .i64 i)])
      (fun i => [(0, .var 65 rowZ), (1, .var 65 ((kindsC (k2 i)).map .c)), (11, .arr 3 1 (some false) (ints asks))]) (fun i => i ≤ 10) (fun i => 10 - i) 0 rfl rfl (Nat.zero_le _) ?_
    intro i hi
    by_cases hlt : i < 10
    · have h10 : i = 0 ∨ i = 1 ∨ i = 2 ∨ i = 3 ∨ i = 4 ∨ i = 5 ∨ i = 6 ∨ i = 7 ∨ i = 8 ∨ i = 9 := by omega
      have c1 : (i : Int) < 10 := by omega
      have c4 : IntKind.i64.wrap ((i : Int) + 1) = (i : Int) + 1 := wrap_in (by omega) (by omega)
      have hla : i < asks.length := by simp [asks]; omega
      have hq : ∀ j (h : j < asks.length), 0 ≤ asks[j] ∧ asks[j] < 22 := by decide
      replace hq := hq i hla
      have h1 := hq.1
      have h2 := hq.2
      have c5 : asks[i].toNat + 1 ≤ 22 := by omega
      have c6 : (i : Int) < asks.length := by simp [asks]; omega
      simp only [c1, c4, c5, c6, h1, h2, ints_at hla, kindsC_len, List.length_map, q_wpLs_eq_1, q_wpLs_eq_2, q_wpL_eq_1, q_exL_eq_1, q_exL_eq_8, q_exL_eq_9, q_exL_eq_11, q_exL_eq_23, q_exL_eq_24, q_look_eq_1, q_look_eq_2, q_insT_eq_1, q_insO_eq_1, q_awl_eq_1, q_awl_eq_2, q_awl_eq_5, q_awl_eq_6, q_awl_eq_7, q_AE_thenL_eq_1, q_AE_inBlockL_eq_1, q_putK_eq_1, q_vBin_eq_1, q_resV_eq_1, q_binV_eq_1, q_binInt_eq_3, q_cutInt_eq_1, q_cutInt_eq_8, q_partV_eq_2, q_loadO_eq_2, q_isA_eq_1, q_vLoad_eq_3, q_vIaddr_eq_2, q_idxO_eq_1, q_vIaddrA_eq_1, q_V_cells_eq_1, q_splice_eq_1, q_isVarO_eq_1, q_stVarK_eq_1, q_storeK_eq_1, q_List_length_cons, q_List_length_nil, q_List_getD_cons_zero, true_and, if_true, and_self, Nat.reduceBEq, Nat.zero_add, Int.toNat_natCast, Nat.le_refl, Int.natCast_nonneg, q_learn_eq_1, q_condK_eq_1, q_condB_eq_1, decide_true, ints_len, List.length_map, lookT_here, lookT_next, Int.cast_ofNat_Int, lookO_here, lookO_next, Nat.mul_one, uf44r3, uf44r4, uf44r5, uf44b6, uf44b7, uf44b8, uf44b9, uf44b10, uf44r11, uf44b12]
      refine Next.intro (i + 1) rfl ?_ (by omega) (by omega)
      rcases h10 with rfl | rfl | rfl | rfl | rfl | rfl | rfl | rfl | rfl | rfl <;> rfl
    · have c1 : ¬ (i : Int) < 10 := by omega
      obtain rfl : i = 10 := by omega
      simp only [c1, kindsC_len, List.length_map, r_ofRow_take (kindsC_len _), q_wpLs_eq_1, q_wpLs_eq_2, q_wpL_eq_1, q_exL_eq_8, q_exL_eq_9, q_exL_eq_11, q_look_eq_1, q_insT_eq_1, q_insO_eq_1, q_awl_eq_2, q_awl_eq_5, q_awl_eq_6, q_awl_eq_9, q_awl_eq_10, q_AE_thenL_eq_1, q_AE_thenL_eq_2, q_AE_inBlockL_eq_2, q_putK_eq_1, q_vBin_eq_1, q_resV_eq_1, q_binV_eq_1, q_binInt_eq_3, q_cutInt_eq_8, q_loadO_eq_1, q_isV_eq_1, q_vLoad_eq_1, q_V_cells_eq_2, q_splice_eq_1, q_stVarK_eq_1, q_storeK_eq_1, q_mapT_eq_1, q_mapT_eq_2, q_mapO_eq_1, q_mapO_eq_2, q_endK_eq_2, q_endL_eq_1, q_endV_eq_1, q_resL_eq_1, q_resL_eq_2, q_resX_eq_2, q_resCell_eq_1, q_one_eq_1, q_V_nrm_eq_1, q_V_nrm_eq_2, q_K_nrm_eq_1, q_K_nrm_eq_3, q_O_nrm_eq_1, q_O_nrm_eq_2, q_C_norm_eq_4, q_C_norm_eq_5, q_List_take_zero, q_List_drop_zero, q_List_nil_append, true_and, and_true, if_true, Nat.reduceLT, Nat.reduceBEq, Nat.zero_add, Nat.le_refl, q_learn_eq_1, q_condK_eq_1, q_condB_eq_2, decide_false, normRows_ints, List.length_map, r_ofRow_take, lookT_here, lookT_next, Int.reduceLT, Int.cast_ofNat_Int, lookO_here, lookO_next, r_map_nrm, uf44r1, uf44b2, uf44b9, uf44b10, uf44r11, uf44b12]
      refine ⟨by decide, ?_, ?_⟩
      · exact List.nodup_nil
      · exact hS
theorem kinds_at {n : Int} (h1 : 0 ≤ n) (h2 : n < 22) : List.take 1 (List.drop n.toNat (kindsRow.map Abs.K.c)) = [.c (.int .i64 (qtype n))] := by
  obtain ⟨m, rfl⟩ : ∃ m : Nat, n = m := ⟨n.toNat, by omega⟩
  have h22 : m = 0 ∨ m = 1 ∨ m = 2 ∨ m = 3 ∨ m = 4 ∨ m = 5 ∨ m = 6 ∨ m = 7 ∨ m = 8 ∨ m = 9 ∨ m = 10 ∨ m = 11 ∨ m = 12 ∨ m = 13 ∨ m = 14 ∨ m = 15 ∨ m = 16 ∨ m = 17 ∨ m = 18 ∨ m = 19 ∨ m = 20 ∨ m = 21 := by omega
  rcases h22 with rfl | rfl | rfl | rfl | rfl | rfl | rfl | rfl | rfl | rfl | rfl | rfl | rfl | rfl | rfl | rfl | rfl | rfl | rfl | rfl | rfl | rfl <;> rfl
theorem kindsRow_len : kindsRow.length = 22 := kindsC_len _
theorem s16 (q : Int) : Spec Try.prog 16 [.int .i64 q] (fun r => r = typeQ q) := by
  refine Spec.of_awlS hf16 okf16 (by simp) fun S hS => ?_
  by_cases h1 : q < 0
  · simp only [h1, q_wpLs_eq_1, q_wpLs_eq_2, q_wpL_eq_1, q_putDL_eq_1, q_AOp_dst_eq_1, q_AOp_dst_eq_10, q_exL_eq_1, q_exL_eq_3, q_exL_eq_11, q_look_eq_1, q_look_eq_2, q_lookO_eq_1, q_insT_eq_1, q_awl_eq_2, q_awl_eq_5, q_awl_eq_6, q_awl_eq_10, q_AE_thenL_eq_1, q_AE_thenL_eq_3, q_initT_eq_1, q_initT_eq_2, q_putK_eq_1, q_vBin_eq_1, q_resV_eq_1, q_binV_eq_1, q_binInt_eq_3, q_cutInt_eq_8, q_vPick_eq_2, q_mapT_eq_1, q_mapT_eq_2, q_mapO_eq_1, q_endK_eq_2, q_endL_eq_1, q_endV_eq_1, q_resL_eq_1, q_resL_eq_2, q_resX_eq_1, q_one_eq_2, q_V_nrm_eq_1, q_V_nrm_eq_5, q_K_nrm_eq_1, q_V_owns_eq_1, q_V_owns_eq_3, q_K_owns_eq_2, q_V_ownsL_eq_1, q_V_ownsL_eq_2, q_V_toNew_eq_1, q_V_toNew_eq_4, q_K_toNew_eq_1, q_V_toNewL_eq_1, q_V_toNewL_eq_2, q_C_norm_eq_4, q_C_norm_eq_5, q_Bool_not_false, true_and, if_true, and_self, List.append_nil, List.nodup_nil, Nat.reduceBEq, Nat.zero_add, q_learn_eq_1, q_guardP_eq_2, q_condK_eq_1, q_condB_eq_1, decide_true, lookT_here, lookT_next, uf16, uf16r3, uf16b4, uf16b5, uf16r6, uf16b7, uf16b8, uf16r9, uf16b10]
    exact fin hS (by rw [typeQ, if_pos (.inl h1)])
  by_cases h2 : q ≥ 22
  · simp only [h1, h2, q_wpLs_eq_1, q_wpLs_eq_2, q_wpL_eq_1, q_AOp_dst_eq_1, q_AOp_dst_eq_10, q_exL_eq_1, q_exL_eq_3, q_exL_eq_11, q_look_eq_1, q_look_eq_2, q_lookO_eq_1, q_insT_eq_1, q_awl_eq_2, q_awl_eq_5, q_awl_eq_6, q_awl_eq_10, q_AE_thenL_eq_1, q_AE_thenL_eq_3, q_initT_eq_1, q_initT_eq_2, q_putK_eq_1, q_vBin_eq_1, q_resV_eq_1, q_binV_eq_1, q_binInt_eq_3, q_cutInt_eq_8, q_cutInt_eq_11, q_vPick_eq_1, q_mapT_eq_1, q_mapT_eq_2, q_mapO_eq_1, q_endK_eq_2, q_endL_eq_1, q_endV_eq_1, q_resL_eq_1, q_resL_eq_2, q_resX_eq_1, q_one_eq_2, q_V_nrm_eq_1, q_K_nrm_eq_1, q_V_owns_eq_1, q_V_owns_eq_3, q_K_owns_eq_2, q_V_ownsL_eq_1, q_V_ownsL_eq_2, q_V_toNew_eq_1, q_V_toNew_eq_4, q_K_toNew_eq_1, q_V_toNewL_eq_1, q_V_toNewL_eq_2, q_C_norm_eq_4, q_C_norm_eq_5, q_Bool_not_false, true_and, if_true, if_false, Bool.false_eq_true, and_self, List.append_nil, List.nodup_nil, Nat.reduceBEq, Nat.zero_add, q_learn_eq_1, q_guardP_eq_2, q_condK_eq_1, q_condB_eq_1, q_condB_eq_2, q_exK_eq_1, decide_true, decide_false, lookT_here, lookT_next, uf16, uf16r3, uf16b4, uf16b5, uf16r6, uf16b7, uf16b8, uf16r9, uf16b10]
    exact fin hS (by rw [typeQ, if_pos (.inr h2)])
  rw [typeQ, if_neg (by omega)] at hS
  simp only [h1, h2, q_wpLs_eq_1, q_wpLs_eq_2, q_wpL_eq_1, q_AOp_dst_eq_1, q_AOp_dst_eq_10, q_exL_eq_1, q_exL_eq_3, q_exL_eq_11, q_exL_eq_28, q_look_eq_1, q_look_eq_2, q_insT_eq_1, q_awl_eq_1, q_awl_eq_2, q_awl_eq_5, q_awl_eq_6, q_AE_thenL_eq_1, q_initT_eq_1, q_initT_eq_2, q_putK_eq_1, q_vBin_eq_1, q_resV_eq_1, q_binV_eq_1, q_binInt_eq_3, q_cutInt_eq_8, q_cutInt_eq_11, q_vPick_eq_1, q_Bool_not_false, q_List_map_nil, true_and, if_true, if_false, Bool.false_eq_true, Nat.reduceBEq, Nat.zero_add, q_learn_eq_1, q_guardP_eq_2, q_condK_eq_1, q_condB_eq_2, q_exK_eq_1, decide_false, lookT_here, lookT_next, uf16, uf16r1, uf16b2, uf16b5, uf16r6, uf16b7, uf16b8, uf16r9, uf16b10]
  refine call_r s44 ?_
  have e := kinds_at (n := q) (by omega) (by omega)
  have h3 : 0 ≤ q := by omega
  have h4 : q < 22 := by omega
  rw [← List.map_drop, ← List.map_take] at e
  simp only [h3, h4, kindsRow_len, e, q_wpLs_eq_1, q_wpLs_eq_2, q_wpL_eq_1, q_exL_eq_1, q_exL_eq_26, q_look_eq_1, q_look_eq_2, q_lookO_eq_1, q_insT_eq_1, q_awl_eq_10, q_putK_eq_1, q_vAidx_eq_1, q_ofRow_eq_1, q_pureRow_eq_1, q_pureRow_eq_2, q_mapT_eq_1, q_mapT_eq_2, q_mapO_eq_1, q_endK_eq_2, q_endL_eq_1, q_endV_eq_1, q_resL_eq_1, q_resL_eq_2, q_resX_eq_1, q_one_eq_2, q_V_nrm_eq_1, q_V_nrm_eq_2, q_K_nrm_eq_1, q_V_owns_eq_1, q_V_owns_eq_3, q_K_owns_eq_2, q_V_ownsL_eq_1, q_V_ownsL_eq_2, q_V_toNew_eq_1, q_V_toNew_eq_4, q_K_toNew_eq_1, q_V_toNewL_eq_1, q_V_toNewL_eq_2, q_C_norm_eq_4, q_C_norm_eq_5, q_regN_eq_2, q_V_reg_eq_4, q_freesL_eq_1, q_addsL_eq_1, q_regK_eq_1, q_retK_eq_2, q_Option_map_some, q_List_length_nil, true_and, if_false, Bool.false_eq_true, and_self, List.append_nil, List.nodup_nil, Nat.reduceAdd, Nat.reduceMul, Nat.reduceBEq, lookT_here, lookT_next, Int.cast_ofNat_Int, Nat.mul_one]
  exact fin hS rfl
theorem s48 (o : Order) (q : Int) : Spec Try.prog 48 [.agg (encOrder o), .int .i64 q] (fun r => r = .int .i64 (rix o.rules q 0)) := by
  refine Spec.of_len hf48 fun hlen => ?_
  have hl := (len_rules (o := o) List.mem_cons_self hlen).2
  clear hlen
  refine Spec.of_awlS hf48 okf48 (by simp) fun S hS => ?_
  simp only [q_wpLs_eq_1, q_wpLs_eq_2, q_wpL_eq_1, q_exL_eq_1, q_exL_eq_5, q_look_eq_1, q_look_eq_2, q_insT_eq_1, q_insO_eq_1, q_awl_eq_2, q_awl_eq_5, q_awl_eq_7, q_AE_thenL_eq_1, q_initT_eq_1, q_initT_eq_2, q_boxK_eq_1, q_freeB_eq_1, q_freeT_eq_1, q_freeT_eq_2, q_freeO_eq_1, q_V_noRef_eq_1, q_V_noRef_eq_2, q_K_noRef_eq_1, true_and, Bool.and_true, Bool.or_true, Nat.reduceAdd, Nat.reduceBEq, Nat.zero_add, lookT_here, uf48, uf48b16, uf48r17, uf48b18, uf48b19, uf48r20, uf48b21]
  rw [uf48l15]
  refine awl_loop (fun i : Nat => [(1, .int .i64 q), (2, .k (.ptr 2 0)), (5, .int .i64 i)]) (fun _ => [(2, .var 25 ((encOrder o).map .c))])
    (fun i => i ≤ o.rules.length ∧ rix (o.rules.drop i) q i = rix o.rules q 0) (fun i => o.rules.length - i) 0 rfl rfl ⟨Nat.zero_le _, rfl⟩ ?_
  rintro i ⟨hi, hj⟩
  by_cases hlt : i < o.rules.length
  · have c1 : (i : Int) < o.rules.length := by omega
    have c4 : IntKind.i64.wrap ((i : Int) + 1) = (i : Int) + 1 := wrap_in (by omega) (by omega)
    rw [rix_drop hlt] at hj
    simp only [c1, c4, map_at hlt, q_wpLs_eq_1, q_wpLs_eq_2, q_wpL_eq_1, q_exL_eq_1, q_exL_eq_8, q_exL_eq_11, q_exL_eq_21, q_exL_eq_23, q_exL_eq_30, q_look_eq_1, q_look_eq_2, q_insT_eq_1, q_awl_eq_1, q_awl_eq_2, q_awl_eq_5, q_awl_eq_6, q_awl_eq_7, q_awl_eq_10, q_AE_thenL_eq_1, q_AE_thenL_eq_3, q_AE_inBlockL_eq_1, q_AE_inBlockL_eq_3, q_putK_eq_1, q_vBin_eq_1, q_resV_eq_1, q_binV_eq_1, q_binInt_eq_3, q_cutInt_eq_1, q_cutInt_eq_6, q_cutInt_eq_8, q_vFaddr_eq_1, q_vFaddr_eq_3, q_partV_eq_2, q_loadO_eq_1, q_isV_eq_1, q_vLoad_eq_1, q_vLoad_eq_2, q_isVarO_eq_1, q_mapT_eq_1, q_mapT_eq_2, q_mapO_eq_1, q_mapO_eq_2, q_endK_eq_2, q_endL_eq_1, q_endV_eq_1, q_resL_eq_1, q_resL_eq_2, q_resX_eq_1, q_one_eq_1, q_V_nrm_eq_1, q_K_nrm_eq_1, q_K_nrm_eq_2, q_K_nrm_eq_3, q_O_nrm_eq_1, q_V_owns_eq_1, q_K_owns_eq_2, q_V_toNew_eq_1, q_K_toNew_eq_1, q_C_norm_eq_4, q_C_norm_eq_5, true_and, if_true, and_self, List.nodup_nil, Nat.reduceAdd, Nat.reduceLeDiff, Nat.reduceBEq, Nat.zero_add, Nat.add_zero, Int.toNat_natCast, Nat.le_refl, Int.natCast_nonneg, q_learn_eq_1, q_condK_eq_1, q_condB_eq_1, condB_beq, decide_true, r_vLen_lst, r_vIaddr_lst, norm_lst, normRows_R, encOrder_norm, List.length_map, encOrder_len, lookT_here, lookT_next, lookO_here, g_rule0, f_or3, r_map_nrm, uf48r3, uf48r4, uf48b5, uf48b6, uf48r7, uf48b8, uf48b9, uf48b10, uf48b11, uf48r12, uf48b13, uf48b14]
    refine ⟨fun h => ?_, fun h => ?_⟩
    · rw [if_pos h] at hj
      exact fin hS (by rw [← hj])
    · rw [if_neg h] at hj
      exact Next.intro (i + 1) rfl rfl ⟨by omega, hj⟩ (by omega)
  · have c1 : ¬ (i : Int) < o.rules.length := by omega
    simp only [c1, q_wpLs_eq_1, q_wpLs_eq_2, q_wpL_eq_1, q_exL_eq_1, q_exL_eq_8, q_exL_eq_11, q_exL_eq_21, q_exL_eq_30, q_look_eq_1, q_look_eq_2, q_insT_eq_1, q_awl_eq_2, q_awl_eq_5, q_awl_eq_6, q_awl_eq_9, q_awl_eq_10, q_AE_thenL_eq_1, q_AE_thenL_eq_2, q_AE_inBlockL_eq_2, q_putK_eq_1, q_vBin_eq_1, q_resV_eq_1, q_binV_eq_1, q_binInt_eq_3, q_cutInt_eq_8, q_vFaddr_eq_1, q_loadO_eq_1, q_isV_eq_1, q_vLoad_eq_1, q_isVarO_eq_1, q_mapT_eq_1, q_mapT_eq_2, q_mapO_eq_1, q_mapO_eq_2, q_endK_eq_2, q_endL_eq_1, q_endV_eq_1, q_resL_eq_1, q_resL_eq_2, q_resX_eq_1, q_one_eq_1, q_V_nrm_eq_1, q_K_nrm_eq_1, q_K_nrm_eq_3, q_O_nrm_eq_1, q_V_owns_eq_1, q_K_owns_eq_2, q_V_toNew_eq_1, q_K_toNew_eq_1, q_C_norm_eq_4, q_C_norm_eq_5, true_and, if_true, and_self, Int.reduceNeg, List.nodup_nil, Nat.reduceAdd, Nat.reduceBEq, Nat.zero_add, Nat.le_refl, q_learn_eq_1, q_condK_eq_1, q_condB_eq_2, decide_false, r_vLen_lst, norm_lst, normRows_R, encOrder_norm, List.length_map, encOrder_len, lookT_here, lookT_next, lookO_here, f_or3, r_map_nrm, uf48r1, uf48b2, uf48b11, uf48r12, uf48b13, uf48b14]
    rw [List.drop_eq_nil_of_le (by omega), rix] at hj
    exact fin hS (by rw [← hj])
theorem has_loop {f : FuncId} (l : List Int) (v : Int) : True := trivial
theorem s51 (l : List Int) (v : Int) : Spec Try.prog 51 [lst 1 (ints l), .int .i64 v] (fun r => r = .bool (hasI l v)) := by
  refine Spec.of_len hf51 fun hlen => ?_
  have hl := len_lst (sz := 1) (rows := ints l) List.mem_cons_self hlen
  rw [ints_len] at hl
  clear hlen
  refine Spec.of_awlS hf51 okf51 (by simp) fun S hS => ?_
  simp only [q_wpLs_eq_1, q_wpLs_eq_2, q_wpL_eq_1, q_exL_eq_1, q_look_eq_2, q_insT_eq_1, q_awl_eq_2, q_awl_eq_5, q_awl_eq_7, q_AE_thenL_eq_1, q_initT_eq_1, q_initT_eq_2, Nat.reduceAdd, Nat.zero_add, uf51, uf51b16, uf51r17, uf51b18, uf51b19, uf51r20, uf51b21]
  rw [uf51l15]
  refine awl_loop (fun i : Nat => [(0, lst 1 (ints l)), (1, .int .i64 v), (5, .int .i64 i)]) (fun _ => [])
    (fun i => i ≤ l.length ∧ hasI (l.drop i) v = hasI l v) (fun i => l.length - i) 0 rfl rfl ⟨Nat.zero_le _, rfl⟩ ?_
  rintro i ⟨hi, hj⟩
  by_cases hlt : i < l.length
  · have c1 : (i : Int) < l.length := by omega
    have c4 : IntKind.i64.wrap ((i : Int) + 1) = (i : Int) + 1 := wrap_in (by omega) (by omega)
    rw [hasI_drop hlt] at hj
    simp only [c1, c4, ints_at hlt, q_wpLs_eq_1, q_wpLs_eq_2, q_wpL_eq_1, q_exL_eq_1, q_exL_eq_8, q_exL_eq_11, q_exL_eq_23, q_exL_eq_30, q_look_eq_1, q_look_eq_2, q_lookO_eq_1, q_insT_eq_1, q_awl_eq_1, q_awl_eq_2, q_awl_eq_5, q_awl_eq_6, q_awl_eq_7, q_awl_eq_10, q_AE_thenL_eq_1, q_AE_thenL_eq_3, q_AE_inBlockL_eq_1, q_AE_inBlockL_eq_3, q_putK_eq_1, q_vBin_eq_1, q_resV_eq_1, q_binV_eq_1, q_binInt_eq_3, q_cutInt_eq_1, q_cutInt_eq_6, q_cutInt_eq_8, q_partV_eq_2, q_vLoad_eq_2, q_mapT_eq_1, q_mapT_eq_2, q_mapO_eq_1, q_endK_eq_2, q_endL_eq_1, q_endV_eq_1, q_resL_eq_1, q_resL_eq_2, q_resX_eq_1, q_one_eq_1, q_V_nrm_eq_1, q_K_nrm_eq_1, q_K_nrm_eq_2, q_V_owns_eq_1, q_K_owns_eq_2, q_V_toNew_eq_1, q_K_toNew_eq_1, q_C_norm_eq_4, q_C_norm_eq_5, q_List_getD_cons_zero, true_and, if_true, and_self, List.nodup_nil, Nat.reduceBEq, Nat.zero_add, Int.toNat_natCast, Nat.le_refl, Int.natCast_nonneg, q_learn_eq_1, q_condK_eq_1, q_condB_eq_1, condB_beq, decide_true, r_vLen_lst, r_vIaddr_lst, norm_lst, normRows_ints, ints_len, lookT_here, lookT_next, uf51r3, uf51r4, uf51b5, uf51b6, uf51r7, uf51b8, uf51b9, uf51b10, uf51b11, uf51r12, uf51b13, uf51b14]
    refine ⟨fun h => ?_, fun h => ?_⟩
    · rw [if_pos h] at hj
      exact fin hS (by rw [← hj])
    · rw [if_neg h] at hj
      exact Next.intro (i + 1) rfl rfl ⟨by omega, hj⟩ (by omega)
  · have c1 : ¬ (i : Int) < l.length := by omega
    simp only [c1, q_wpLs_eq_1, q_wpLs_eq_2, q_wpL_eq_1, q_exL_eq_1, q_exL_eq_11, q_exL_eq_30, q_look_eq_1, q_look_eq_2, q_lookO_eq_1, q_insT_eq_1, q_awl_eq_2, q_awl_eq_5, q_awl_eq_6, q_awl_eq_9, q_awl_eq_10, q_AE_thenL_eq_1, q_AE_thenL_eq_2, q_AE_inBlockL_eq_2, q_putK_eq_1, q_vBin_eq_1, q_resV_eq_1, q_binV_eq_1, q_binInt_eq_3, q_cutInt_eq_8, q_mapT_eq_1, q_mapT_eq_2, q_mapO_eq_1, q_endK_eq_2, q_endL_eq_1, q_endV_eq_1, q_resL_eq_1, q_resL_eq_2, q_resX_eq_1, q_one_eq_1, q_V_nrm_eq_1, q_K_nrm_eq_1, q_V_owns_eq_1, q_K_owns_eq_2, q_V_toNew_eq_1, q_K_toNew_eq_1, q_C_norm_eq_4, q_C_norm_eq_5, true_and, if_true, and_self, List.nodup_nil, Nat.reduceBEq, q_learn_eq_1, q_condK_eq_1, q_condB_eq_2, decide_false, r_vLen_lst, norm_lst, normRows_ints, ints_len, lookT_here, lookT_next, uf51r1, uf51b2, uf51b11, uf51r12, uf51b13, uf51b14]
    rw [List.drop_eq_nil_of_le (by omega)] at hj
    exact fin hS (by rw [← hj]; rfl)
theorem s42 (l : List Int) (v : Int) : Spec Try.prog 42 [lst 1 (ints l), .int .i64 v] (fun r => r = .bool (hasI l v)) := by
  refine Spec.of_len hf42 fun hlen => ?_
  have hl := len_lst (sz := 1) (rows := ints l) List.mem_cons_self hlen
  rw [ints_len] at hl
  clear hlen
  refine Spec.of_awlS hf42 okf42 (by simp) fun S hS => ?_
  simp only [q_wpLs_eq_1, q_wpLs_eq_2, q_wpL_eq_1, q_exL_eq_1, q_look_eq_2, q_insT_eq_1, q_awl_eq_2, q_awl_eq_5, q_awl_eq_7, q_AE_thenL_eq_1, q_initT_eq_1, q_initT_eq_2, Nat.reduceAdd, Nat.zero_add, uf42, uf42b16, uf42r17, uf42b18, uf42b19, uf42r20, uf42b21]
  rw [uf42l15]
  refine awl_loop (fun i : Nat => [(0, lst 1 (ints l)), (1, .int .i64 v), (5, .int .i64 i)]) (fun _ => [])
    (fun i => i ≤ l.length ∧ hasI (l.drop i) v = hasI l v) (fun i => l.length - i) 0 rfl rfl ⟨Nat.zero_le _, rfl⟩ ?_
  rintro i ⟨hi, hj⟩
  by_cases hlt : i < l.length
  · have c1 : (i : Int) < l.length := by omega
    have c4 : IntKind.i64.wrap ((i : Int) + 1) = (i : Int) + 1 := wrap_in (by omega) (by omega)
    rw [hasI_drop hlt] at hj
    simp only [c1, c4, ints_at hlt, q_wpLs_eq_1, q_wpLs_eq_2, q_wpL_eq_1, q_exL_eq_1, q_exL_eq_8, q_exL_eq_11, q_exL_eq_23, q_exL_eq_30, q_look_eq_1, q_look_eq_2, q_lookO_eq_1, q_insT_eq_1, q_awl_eq_1, q_awl_eq_2, q_awl_eq_5, q_awl_eq_6, q_awl_eq_7, q_awl_eq_10, q_AE_thenL_eq_1, q_AE_thenL_eq_3, q_AE_inBlockL_eq_1, q_AE_inBlockL_eq_3, q_putK_eq_1, q_vBin_eq_1, q_resV_eq_1, q_binV_eq_1, q_binInt_eq_3, q_cutInt_eq_1, q_cutInt_eq_6, q_cutInt_eq_8, q_partV_eq_2, q_vLoad_eq_2, q_mapT_eq_1, q_mapT_eq_2, q_mapO_eq_1, q_endK_eq_2, q_endL_eq_1, q_endV_eq_1, q_resL_eq_1, q_resL_eq_2, q_resX_eq_1, q_one_eq_1, q_V_nrm_eq_1, q_K_nrm_eq_1, q_K_nrm_eq_2, q_V_owns_eq_1, q_K_owns_eq_2, q_V_toNew_eq_1, q_K_toNew_eq_1, q_C_norm_eq_4, q_C_norm_eq_5, q_List_getD_cons_zero, true_and, if_true, and_self, List.nodup_nil, Nat.reduceBEq, Nat.zero_add, Int.toNat_natCast, Nat.le_refl, Int.natCast_nonneg, q_learn_eq_1, q_condK_eq_1, q_condB_eq_1, condB_beq, decide_true, r_vLen_lst, r_vIaddr_lst, norm_lst, normRows_ints, ints_len, lookT_here, lookT_next, uf42r3, uf42r4, uf42b5, uf42b6, uf42r7, uf42b8, uf42b9, uf42b10, uf42b11, uf42r12, uf42b13, uf42b14]
    refine ⟨fun h => ?_, fun h => ?_⟩
    · rw [if_pos h] at hj
      exact fin hS (by rw [← hj])
    · rw [if_neg h] at hj
      exact Next.intro (i + 1) rfl rfl ⟨by omega, hj⟩ (by omega)
  · have c1 : ¬ (i : Int) < l.length := by omega
    simp only [c1, q_wpLs_eq_1, q_wpLs_eq_2, q_wpL_eq_1, q_exL_eq_1, q_exL_eq_11, q_exL_eq_30, q_look_eq_1, q_look_eq_2, q_lookO_eq_1, q_insT_eq_1, q_awl_eq_2, q_awl_eq_5, q_awl_eq_6, q_awl_eq_9, q_awl_eq_10, q_AE_thenL_eq_1, q_AE_thenL_eq_2, q_AE_inBlockL_eq_2, q_putK_eq_1, q_vBin_eq_1, q_resV_eq_1, q_binV_eq_1, q_binInt_eq_3, q_cutInt_eq_8, q_mapT_eq_1, q_mapT_eq_2, q_mapO_eq_1, q_endK_eq_2, q_endL_eq_1, q_endV_eq_1, q_resL_eq_1, q_resL_eq_2, q_resX_eq_1, q_one_eq_1, q_V_nrm_eq_1, q_K_nrm_eq_1, q_V_owns_eq_1, q_K_owns_eq_2, q_V_toNew_eq_1, q_K_toNew_eq_1, q_C_norm_eq_4, q_C_norm_eq_5, true_and, if_true, and_self, List.nodup_nil, Nat.reduceBEq, q_learn_eq_1, q_condK_eq_1, q_condB_eq_2, decide_false, r_vLen_lst, norm_lst, normRows_ints, ints_len, lookT_here, lookT_next, uf42r1, uf42b2, uf42b11, uf42r12, uf42b13, uf42b14]
    rw [List.drop_eq_nil_of_le (by omega)] at hj
    exact fin hS (by rw [← hj]; rfl)
theorem s17 (q : Int) : Spec Try.prog 17 [.int .i64 q] (fun r => r = typeQ q) := by
  refine Spec.of_awlS hf17 okf17 (by simp) fun S hS => ?_
  by_cases h1 : q < 0
  · simp only [h1, q_wpLs_eq_1, q_wpLs_eq_2, q_wpL_eq_1, q_putDL_eq_1, q_AOp_dst_eq_1, q_AOp_dst_eq_10, q_exL_eq_1, q_exL_eq_3, q_exL_eq_11, q_look_eq_1, q_look_eq_2, q_lookO_eq_1, q_insT_eq_1, q_awl_eq_2, q_awl_eq_5, q_awl_eq_6, q_awl_eq_10, q_AE_thenL_eq_1, q_AE_thenL_eq_3, q_initT_eq_1, q_initT_eq_2, q_putK_eq_1, q_vBin_eq_1, q_resV_eq_1, q_binV_eq_1, q_binInt_eq_3, q_cutInt_eq_8, q_vPick_eq_2, q_mapT_eq_1, q_mapT_eq_2, q_mapO_eq_1, q_endK_eq_2, q_endL_eq_1, q_endV_eq_1, q_resL_eq_1, q_resL_eq_2, q_resX_eq_1, q_one_eq_2, q_V_nrm_eq_1, q_V_nrm_eq_5, q_K_nrm_eq_1, q_V_owns_eq_1, q_V_owns_eq_3, q_K_owns_eq_2, q_V_ownsL_eq_1, q_V_ownsL_eq_2, q_V_toNew_eq_1, q_V_toNew_eq_4, q_K_toNew_eq_1, q_V_toNewL_eq_1, q_V_toNewL_eq_2, q_C_norm_eq_4, q_C_norm_eq_5, q_Bool_not_false, true_and, if_true, and_self, List.append_nil, List.nodup_nil, Nat.reduceBEq, Nat.zero_add, q_learn_eq_1, q_guardP_eq_2, q_condK_eq_1, q_condB_eq_1, decide_true, lookT_here, lookT_next, uf17, uf17r39, uf17b40, uf17b41, uf17r42, uf17b43, uf17b44, uf17r45, uf17b46]
    exact fin hS (by rw [typeQ, if_pos (.inl h1)])
  by_cases h2 : q ≥ 22
  · simp only [h1, h2, q_wpLs_eq_1, q_wpLs_eq_2, q_wpL_eq_1, q_AOp_dst_eq_1, q_AOp_dst_eq_10, q_exL_eq_1, q_exL_eq_3, q_exL_eq_11, q_look_eq_1, q_look_eq_2, q_lookO_eq_1, q_insT_eq_1, q_awl_eq_2, q_awl_eq_5, q_awl_eq_6, q_awl_eq_10, q_AE_thenL_eq_1, q_AE_thenL_eq_3, q_initT_eq_1, q_initT_eq_2, q_putK_eq_1, q_vBin_eq_1, q_resV_eq_1, q_binV_eq_1, q_binInt_eq_3, q_cutInt_eq_8, q_cutInt_eq_11, q_vPick_eq_1, q_mapT_eq_1, q_mapT_eq_2, q_mapO_eq_1, q_endK_eq_2, q_endL_eq_1, q_endV_eq_1, q_resL_eq_1, q_resL_eq_2, q_resX_eq_1, q_one_eq_2, q_V_nrm_eq_1, q_K_nrm_eq_1, q_V_owns_eq_1, q_V_owns_eq_3, q_K_owns_eq_2, q_V_ownsL_eq_1, q_V_ownsL_eq_2, q_V_toNew_eq_1, q_V_toNew_eq_4, q_K_toNew_eq_1, q_V_toNewL_eq_1, q_V_toNewL_eq_2, q_C_norm_eq_4, q_C_norm_eq_5, q_Bool_not_false, true_and, if_true, if_false, Bool.false_eq_true, and_self, List.append_nil, List.nodup_nil, Nat.reduceBEq, Nat.zero_add, q_learn_eq_1, q_guardP_eq_2, q_condK_eq_1, q_condB_eq_1, q_condB_eq_2, q_exK_eq_1, decide_true, decide_false, lookT_here, lookT_next, uf17, uf17r39, uf17b40, uf17b41, uf17r42, uf17b43, uf17b44, uf17r45, uf17b46]
    exact fin hS (by rw [typeQ, if_pos (.inr h2)])
  rw [typeQ, if_neg (by omega)] at hS
  simp only [h1, h2, q_wpLs_eq_1, q_wpLs_eq_2, q_wpL_eq_1, q_AOp_dst_eq_1, q_AOp_dst_eq_10, q_exL_eq_1, q_exL_eq_3, q_exL_eq_11, q_look_eq_1, q_look_eq_2, q_lookO_eq_1, q_insT_eq_1, q_awl_eq_1, q_awl_eq_2, q_awl_eq_5, q_awl_eq_6, q_awl_eq_7, q_awl_eq_10, q_AE_thenL_eq_1, q_AE_thenL_eq_3, q_AE_inBlockL_eq_1, q_AE_inBlockL_eq_3, q_initT_eq_1, q_initT_eq_2, q_putK_eq_1, q_vBin_eq_1, q_resV_eq_1, q_binV_eq_1, q_binInt_eq_3, q_cutInt_eq_6, q_cutInt_eq_8, q_cutInt_eq_11, q_vPick_eq_1, q_mapT_eq_1, q_mapT_eq_2, q_mapO_eq_1, q_endK_eq_2, q_endL_eq_1, q_endV_eq_1, q_resL_eq_1, q_resL_eq_2, q_resX_eq_1, q_one_eq_2, q_V_nrm_eq_1, q_K_nrm_eq_1, q_V_owns_eq_1, q_V_owns_eq_3, q_K_owns_eq_2, q_V_ownsL_eq_1, q_V_ownsL_eq_2, q_V_toNew_eq_1, q_V_toNew_eq_4, q_K_toNew_eq_1, q_V_toNewL_eq_1, q_V_toNewL_eq_2, q_C_norm_eq_4, q_C_norm_eq_5, q_Bool_not_false, true_and, if_true, if_false, Bool.false_eq_true, and_self, List.append_nil, List.nodup_nil, Nat.reduceBEq, Nat.zero_add, q_learn_eq_1, q_guardP_eq_2, q_condK_eq_1, q_condB_eq_1, q_condB_eq_2, q_exK_eq_1, condB_beq, decide_false, lookT_here, lookT_next, uf17, uf17r1, uf17b2, uf17r3, uf17b4, uf17b5, uf17r6, uf17b7, uf17r8, uf17b9, uf17b10, uf17r11, uf17b12, uf17b13, uf17r14, uf17b15, uf17b16, uf17r17, uf17b18, uf17b19, uf17r20, uf17b21, uf17b22, uf17r23, uf17b24, uf17b25, uf17r26, uf17b27, uf17b28, uf17r29, uf17b30, uf17b31, uf17r32, uf17b33, uf17b34, uf17b35, uf17r36, uf17b37, uf17b38, uf17b41, uf17r42, uf17b43, uf17b44, uf17r45, uf17b46]
  repeat' (first | with_reducible refine And.intro ?_ ?_ | with_reducible intro _)
  all_goals (refine fin hS ?_; simp_all [qtype])
end Go.Abs

set_option maxRecDepth 100000
set_option maxHeartbeats 4000000
namespace Go.Abs
open Go.Proofs
abbrev orV (o : Order) : List K := (encOrder o).map .c
theorem s15 (o : Order) : Spec Try.prog 15 [.agg (encOrder o)] (fun r => r = .bool (fewO o)) := by
  refine Spec.of_len hf15 fun hlen => ?_
  have hl := (len_rules (o := o) List.mem_cons_self hlen).2
  clear hlen
  refine Spec.of_awlS hf15 okf15 (by simp) fun S hS => ?_
  by_cases h1 : (o.choices.length : Int) > 60
  · simp only [h1, q_wpLs_eq_1, q_wpLs_eq_2, q_wpL_eq_1, q_putDL_eq_1, q_AOp_dst_eq_8, q_AOp_dst_eq_10, q_AOp_dst_eq_20, q_AOp_dst_eq_27, q_exL_eq_1, q_exL_eq_3, q_exL_eq_5, q_exL_eq_8, q_exL_eq_11, q_exL_eq_21, q_exL_eq_30, q_look_eq_1, q_look_eq_2, q_insT_eq_1, q_insO_eq_1, q_awl_eq_2, q_awl_eq_5, q_awl_eq_6, q_awl_eq_10, q_AE_thenL_eq_1, q_AE_thenL_eq_3, q_initT_eq_1, q_initT_eq_2, q_putK_eq_1, q_vBin_eq_1, q_resV_eq_1, q_binV_eq_1, q_binInt_eq_3, q_cutInt_eq_10, q_vFaddr_eq_1, q_loadO_eq_1, q_isV_eq_1, q_vLoad_eq_1, q_vPick_eq_2, q_isVarO_eq_1, q_boxK_eq_1, q_mapT_eq_1, q_mapT_eq_2, q_mapO_eq_1, q_mapO_eq_2, q_freeB_eq_1, q_freeT_eq_1, q_freeT_eq_2, q_freeO_eq_1, q_V_noRef_eq_2, q_endK_eq_2, q_endL_eq_1, q_endV_eq_1, q_resL_eq_1, q_resL_eq_2, q_resX_eq_1, q_one_eq_1, q_V_nrm_eq_1, q_V_nrm_eq_2, q_V_nrm_eq_5, q_K_nrm_eq_1, q_K_nrm_eq_3, q_O_nrm_eq_1, q_V_owns_eq_1, q_K_owns_eq_2, q_V_toNew_eq_1, q_K_toNew_eq_1, q_C_norm_eq_4, q_C_norm_eq_5, q_Bool_not_false, true_and, if_true, and_self, Bool.and_true, Bool.or_true, List.nodup_nil, Nat.reduceAdd, Nat.reduceLeDiff, Nat.reduceBEq, Nat.zero_add, q_learn_eq_1, q_guardP_eq_2, q_condK_eq_1, q_condB_eq_1, decide_true, r_vLen_lst, norm_lst, normRows_Ch, encOrder_norm, List.length_map, encOrder_len, lookT_here, lookT_next, lookO_here, f_or2, r_map_nrm, uf15, uf15r20, uf15b21, uf15b22, uf15r23, uf15b24, uf15b25, uf15r26, uf15b27]
    exact fin hS (by rw [fewO, if_pos (.inl (by omega))])
  by_cases h2 : (o.rules.length : Int) > 60
  · simp only [h1, h2, q_wpLs_eq_1, q_wpLs_eq_2, q_wpL_eq_1, q_AOp_dst_eq_8, q_AOp_dst_eq_10, q_AOp_dst_eq_20, q_AOp_dst_eq_27, q_exL_eq_1, q_exL_eq_3, q_exL_eq_5, q_exL_eq_8, q_exL_eq_11, q_exL_eq_21, q_exL_eq_30, q_look_eq_1, q_look_eq_2, q_insT_eq_1, q_insO_eq_1, q_awl_eq_2, q_awl_eq_5, q_awl_eq_6, q_awl_eq_10, q_AE_thenL_eq_1, q_AE_thenL_eq_3, q_initT_eq_1, q_initT_eq_2, q_putK_eq_1, q_vBin_eq_1, q_resV_eq_1, q_binV_eq_1, q_binInt_eq_3, q_cutInt_eq_10, q_vFaddr_eq_1, q_loadO_eq_1, q_isV_eq_1, q_vLoad_eq_1, q_vPick_eq_1, q_isVarO_eq_1, q_boxK_eq_1, q_mapT_eq_1, q_mapT_eq_2, q_mapO_eq_1, q_mapO_eq_2, q_freeB_eq_1, q_freeT_eq_1, q_freeT_eq_2, q_freeO_eq_1, q_V_noRef_eq_2, q_endK_eq_2, q_endL_eq_1, q_endV_eq_1, q_resL_eq_1, q_resL_eq_2, q_resX_eq_1, q_one_eq_1, q_V_nrm_eq_1, q_V_nrm_eq_2, q_K_nrm_eq_1, q_K_nrm_eq_3, q_O_nrm_eq_1, q_V_owns_eq_1, q_K_owns_eq_2, q_V_toNew_eq_1, q_K_toNew_eq_1, q_C_norm_eq_4, q_C_norm_eq_5, q_Bool_not_false, true_and, if_true, if_false, Bool.false_eq_true, and_self, Bool.and_true, Bool.or_true, List.nodup_nil, Nat.reduceAdd, Nat.reduceLeDiff, Nat.reduceBEq, Nat.zero_add, Nat.le_refl, q_learn_eq_1, q_guardP_eq_2, q_condK_eq_1, q_condB_eq_1, q_condB_eq_2, q_exK_eq_1, decide_true, decide_false, r_vLen_lst, norm_lst, normRows_Ch, normRows_R, encOrder_norm, List.length_map, encOrder_len, lookT_here, lookT_next, lookO_here, f_or2, f_or3, r_map_nrm, uf15, uf15r20, uf15b21, uf15b22, uf15r23, uf15b24, uf15b25, uf15r26, uf15b27]
    exact fin hS (by rw [fewO, if_pos (.inr (by omega))])
  rw [fewO, if_neg (by omega)] at hS
  simp only [h1, h2, q_wpLs_eq_1, q_wpLs_eq_2, q_wpL_eq_1, q_AOp_dst_eq_8, q_AOp_dst_eq_10, q_AOp_dst_eq_20, q_AOp_dst_eq_27, q_exL_eq_1, q_exL_eq_3, q_exL_eq_5, q_exL_eq_8, q_exL_eq_11, q_exL_eq_21, q_exL_eq_30, q_look_eq_1, q_look_eq_2, q_insT_eq_1, q_insO_eq_1, q_awl_eq_1, q_awl_eq_2, q_awl_eq_5, q_awl_eq_6, q_awl_eq_7, q_AE_thenL_eq_1, q_initT_eq_1, q_initT_eq_2, q_putK_eq_1, q_vBin_eq_1, q_resV_eq_1, q_binV_eq_1, q_binInt_eq_3, q_cutInt_eq_10, q_vFaddr_eq_1, q_loadO_eq_1, q_isV_eq_1, q_vLoad_eq_1, q_vPick_eq_1, q_isVarO_eq_1, q_boxK_eq_1, q_freeB_eq_1, q_freeT_eq_1, q_freeT_eq_2, q_freeO_eq_1, q_V_noRef_eq_2, q_Bool_not_false, true_and, if_true, if_false, Bool.false_eq_true, Bool.and_true, Bool.or_true, Nat.reduceAdd, Nat.reduceLeDiff, Nat.reduceBEq, Nat.zero_add, Nat.le_refl, q_learn_eq_1, q_guardP_eq_2, q_condK_eq_1, q_condB_eq_2, q_exK_eq_1, decide_false, r_vLen_lst, List.length_map, encOrder_len, lookT_here, lookT_next, lookO_here, f_or2, f_or3, uf15, uf15b16, uf15r17, uf15b18, uf15b19, uf15b22, uf15r23, uf15b24, uf15b25, uf15r26, uf15b27]
  rw [uf15l15]
  refine awl_loop (fun i : Nat => [(1, .k (.ptr 1 0)), (3, .int .i64 i)]) (fun _ => [(1, .var 25 (orV o))])
    (fun i => i ≤ o.rules.length ∧ fewR (o.rules.drop i) = fewR o.rules) (fun i => o.rules.length - i) 0 rfl rfl ⟨Nat.zero_le _, rfl⟩ ?_
  rintro i ⟨hi, hj⟩
  by_cases hlt : i < o.rules.length
  · have c1 : (i : Int) < o.rules.length := by omega
    have c4 : IntKind.i64.wrap ((i : Int) + 1) = (i : Int) + 1 := wrap_in (by omega) (by omega)
    rw [fewR_drop hlt] at hj
    simp only [c1, c4, map_at hlt, q_wpLs_eq_1, q_wpLs_eq_2, q_wpL_eq_1, q_exL_eq_1, q_exL_eq_8, q_exL_eq_11, q_exL_eq_21, q_exL_eq_23, q_exL_eq_28, q_exL_eq_30, q_look_eq_1, q_insT_eq_1, q_awl_eq_1, q_awl_eq_2, q_awl_eq_5, q_awl_eq_6, q_awl_eq_7, q_AE_thenL_eq_1, q_putK_eq_1, q_vBin_eq_1, q_resV_eq_1, q_binV_eq_1, q_binInt_eq_3, q_cutInt_eq_8, q_vFaddr_eq_1, q_vFaddr_eq_3, q_partV_eq_1, q_loadO_eq_1, q_isV_eq_1, q_vLoad_eq_1, q_vLoad_eq_2, q_isVarO_eq_1, q_List_map_cons, q_List_map_nil, true_and, if_true, if_false, and_self, Nat.reduceAdd, Nat.reduceEqDiff, Nat.reduceBEq, Nat.succ_ne_self, Nat.zero_add, Int.toNat_natCast, Nat.le_refl, Int.natCast_nonneg, q_learn_eq_1, q_condK_eq_1, q_condB_eq_1, decide_true, r_vLen_lst, r_vIaddr_lst, List.length_map, encOrder_len, lookT_here, lookT_next, lookO_here, g_rule1, f_or3, uf15r3, uf15r7, uf15b8, uf15b9, uf15b10, uf15b11, uf15r12, uf15b13, uf15b14]
    refine call_s (s30 o.rules[i].term) ?_
    cases h : few o.rules[i].term
    · rw [if_pos h] at hj
      simp only [h, q_wpLs_eq_1, q_wpLs_eq_2, q_wpL_eq_1, q_exL_eq_1, q_exL_eq_15, q_look_eq_1, q_look_eq_2, q_insT_eq_1, q_awl_eq_2, q_awl_eq_5, q_awl_eq_6, q_awl_eq_10, q_AE_thenL_eq_1, q_AE_thenL_eq_3, q_AE_inBlockL_eq_3, q_putK_eq_1, q_vUn_eq_1, q_unV_eq_2, q_mapC_eq_1, q_mapT_eq_1, q_mapT_eq_2, q_mapO_eq_1, q_mapO_eq_2, q_endK_eq_2, q_endL_eq_1, q_endV_eq_1, q_resL_eq_1, q_resL_eq_2, q_resX_eq_1, q_one_eq_1, q_V_nrm_eq_1, q_V_nrm_eq_2, q_K_nrm_eq_1, q_K_nrm_eq_2, q_K_nrm_eq_3, q_O_nrm_eq_1, q_V_owns_eq_1, q_K_owns_eq_2, q_V_toNew_eq_1, q_K_toNew_eq_1, q_C_norm_eq_4, q_C_norm_eq_5, q_Bool_not_false, true_and, and_self, List.nodup_nil, q_learn_eq_1, q_condK_eq_1, q_condB_eq_1, norm_lst, normRows_R, encT_norm, encOrder_norm, lookT_here, r_map_nrm, uf15r4, uf15b5, uf15b6]
      exact fin hS (by rw [← hj])
    · rw [if_neg (by simp [h])] at hj
      simp only [h, c4, q_wpLs_eq_1, q_wpLs_eq_2, q_wpL_eq_1, q_exL_eq_1, q_exL_eq_11, q_exL_eq_15, q_look_eq_1, q_look_eq_2, q_insT_eq_1, q_awl_eq_1, q_awl_eq_2, q_awl_eq_6, q_AE_thenL_eq_1, q_AE_inBlockL_eq_1, q_putK_eq_1, q_vBin_eq_1, q_resV_eq_1, q_binV_eq_1, q_binInt_eq_3, q_cutInt_eq_1, q_vUn_eq_1, q_unV_eq_2, q_mapC_eq_1, q_Bool_not_true, true_and, if_true, Nat.reduceBEq, q_learn_eq_1, q_condK_eq_1, q_condB_eq_2, lookT_here, lookT_next, uf15b6]
      exact Next.intro (i + 1) rfl rfl ⟨by omega, hj⟩ (by omega)
  · have c1 : ¬ (i : Int) < o.rules.length := by omega
    simp only [c1, q_wpLs_eq_1, q_wpLs_eq_2, q_wpL_eq_1, q_exL_eq_1, q_exL_eq_8, q_exL_eq_11, q_exL_eq_21, q_exL_eq_30, q_look_eq_1, q_look_eq_2, q_insT_eq_1, q_awl_eq_2, q_awl_eq_5, q_awl_eq_6, q_awl_eq_9, q_awl_eq_10, q_AE_thenL_eq_1, q_AE_thenL_eq_2, q_AE_inBlockL_eq_2, q_putK_eq_1, q_vBin_eq_1, q_resV_eq_1, q_binV_eq_1, q_binInt_eq_3, q_cutInt_eq_8, q_vFaddr_eq_1, q_loadO_eq_1, q_isV_eq_1, q_vLoad_eq_1, q_isVarO_eq_1, q_mapT_eq_1, q_mapT_eq_2, q_mapO_eq_1, q_mapO_eq_2, q_endK_eq_2, q_endL_eq_1, q_endV_eq_1, q_resL_eq_1, q_resL_eq_2, q_resX_eq_1, q_one_eq_1, q_V_nrm_eq_1, q_K_nrm_eq_1, q_K_nrm_eq_3, q_O_nrm_eq_1, q_V_owns_eq_1, q_K_owns_eq_2, q_V_toNew_eq_1, q_K_toNew_eq_1, q_C_norm_eq_4, q_C_norm_eq_5, true_and, if_true, and_self, List.nodup_nil, Nat.reduceAdd, Nat.reduceBEq, Nat.zero_add, Nat.le_refl, q_learn_eq_1, q_condK_eq_1, q_condB_eq_2, decide_false, r_vLen_lst, norm_lst, normRows_R, encOrder_norm, List.length_map, encOrder_len, lookT_here, lookT_next, lookO_here, f_or3, r_map_nrm, uf15r1, uf15b2, uf15b11, uf15r12, uf15b13, uf15b14]
    rw [List.drop_eq_nil_of_le (by omega), fewR] at hj
    exact fin hS (by rw [← hj])
theorem rls_range : ∀ (l : List Rule) (last : Int), rls l last = true → ∀ r ∈ l, last < r.ask ∧ r.ask < 22
  | [], _, _, r, h => by simp at h
  | a :: l, last, h, r, hr => by
    simp only [rls] at h
    split at h
    · simp at h
    · rename_i hc
      have hc : last < a.ask ∧ a.ask < 22 := by simpa using hc
      rcases List.mem_cons.1 hr with rfl | hr
      · exact hc
      · have := rls_range l a.ask h r hr; omega
theorem s20 (o : Order) : Spec Try.prog 20 [.agg (encOrder o)] (fun r => r = .int .i64 (checkO o)) := by
  refine Spec.of_len hf20 fun hlen => ?_
  have hl := len_rules (o := o) List.mem_cons_self hlen
  clear hlen
  obtain ⟨hl1, hl2⟩ := hl
  refine Spec.of_awlS hf20 okf20 (by simp) fun S hS => ?_
  simp only [q_wpLs_eq_1, q_wpLs_eq_2, q_wpL_eq_1, q_exL_eq_1, q_exL_eq_5, q_exL_eq_8, q_exL_eq_21, q_exL_eq_30, q_look_eq_1, q_look_eq_2, q_insT_eq_1, q_insO_eq_1, q_awl_eq_2, q_awl_eq_5, q_awl_eq_7, q_AE_thenL_eq_1, q_initT_eq_1, q_initT_eq_2, q_putK_eq_1, q_vFaddr_eq_1, q_loadO_eq_1, q_isV_eq_1, q_vLoad_eq_1, q_isVarO_eq_1, q_boxK_eq_1, q_freeB_eq_1, q_freeT_eq_1, q_freeT_eq_2, q_freeO_eq_1, q_V_noRef_eq_2, true_and, Bool.and_true, Bool.or_true, Int.reduceNeg, Nat.reduceAdd, Nat.reduceLeDiff, Nat.reduceBEq, Nat.zero_add, r_vLen_lst, List.length_map, encOrder_len, lookT_here, lookT_next, lookO_here, f_or2, uf20, uf20b72, uf20r73, uf20b74, uf20b75, uf20r76, uf20b77, uf20r78, uf20b79]
  rw [uf20l71]
  refine awl_loop (fun x : Nat × Int => [(1, .k (.ptr 1 0)), (3, .int .i64 x.2), (14, lst 3 (o.choices.map encChoice)), (15, .int .i64 o.choices.length), (16, .int .i64 x.1)]) (fun _ => [(1, .var 25 (orV o))])
    (fun x => x.1 ≤ o.choices.length ∧ chs (o.choices.drop x.1) x.2 = chs o.choices (-1)) (fun x => o.choices.length - x.1) (0, -1) rfl rfl ⟨Nat.zero_le _, rfl⟩ ?_
  rintro ⟨i, last⟩ ⟨hi, hj⟩
  simp only [] at hi hj
  by_cases hlt : i < o.choices.length
  · have c1 : (i : Int) < o.choices.length := by omega
    have c4 : IntKind.i64.wrap ((i : Int) + 1) = (i : Int) + 1 := wrap_in (by omega) (by omega)
    rw [chs_drop hlt] at hj
    simp only [c1, c4, map_at hlt, q_wpLs_eq_1, q_wpLs_eq_2, q_wpL_eq_1, q_exL_eq_1, q_exL_eq_4, q_exL_eq_8, q_exL_eq_9, q_exL_eq_11, q_exL_eq_21, q_exL_eq_23, q_exL_eq_28, q_look_eq_1, q_insT_eq_1, q_insO_eq_1, q_awl_eq_1, q_awl_eq_2, q_awl_eq_5, q_awl_eq_6, q_awl_eq_7, q_AE_thenL_eq_1, q_putK_eq_1, q_vBin_eq_1, q_resV_eq_1, q_binV_eq_1, q_binInt_eq_3, q_cutInt_eq_8, q_vFaddr_eq_1, q_partV_eq_1, q_loadO_eq_1, q_isV_eq_1, q_vLoad_eq_1, q_vLoad_eq_2, q_V_cells_eq_2, q_splice_eq_1, q_isVarO_eq_1, q_stVarK_eq_1, q_storeK_eq_1, q_freeB_eq_1, q_freeT_eq_1, q_freeT_eq_2, q_freeO_eq_1, q_freeO_eq_2, q_V_noRef_eq_1, q_V_noRef_eq_2, q_K_noRef_eq_1, q_K_noRef_eq_3, q_K_noRef_eq_5, q_O_noRef_eq_1, q_List_map_cons, q_List_map_nil, q_List_take_zero, q_List_drop_succ_cons, q_List_drop_zero, q_List_nil_append, q_List_length_cons, q_List_length_nil, true_and, if_true, and_self, bne_iff_ne, ne_eq, Bool.and_true, Bool.true_and, Bool.or_true, Bool.false_or, Int.reduceNeg, List.append_nil, Nat.reduceAdd, Nat.reduceEqDiff, Nat.reduceLeDiff, Nat.reduceBEq, Nat.zero_add, Nat.add_zero, Int.toNat_natCast, Nat.le_refl, Int.natCast_nonneg, q_learn_eq_1, not_false_eq_true, q_condK_eq_1, q_condB_eq_1, decide_true, r_vIaddr_lst, List.length_map, encChoice_len, lookT_here, lookT_next, lookO_here, f_ch0, r_all_noRef, uf20r55, uf20r56, uf20r60, uf20b61, uf20b62, uf20r63, uf20b64, uf20b65, uf20b66, uf20b67, uf20b68, uf20r69, uf20b70]
    refine call_s (s45 last o.choices[i].ask) ?_
    have hbad : (¬ (last < o.choices[i].ask ∧ o.choices[i].ask < 22) ∨ o.choices[i].by_ < 0 ∨ o.choices[i].by_ ≥ 5) → S (.k (.c (.int .i64 1))) := by
      intro h
      rw [if_pos h] at hj
      exact fin hS (by rw [checkO, if_pos hj.symm])
    by_cases h1 : last < o.choices[i].ask ∧ o.choices[i].ask < 22
    · simp only [h1, c4, and_self, q_wpLs_eq_1, q_wpLs_eq_2, q_wpL_eq_1, q_putDL_eq_1, q_AOp_dst_eq_8, q_AOp_dst_eq_10, q_AOp_dst_eq_20, q_exL_eq_1, q_exL_eq_3, q_exL_eq_8, q_exL_eq_11, q_exL_eq_15, q_exL_eq_21, q_look_eq_1, q_look_eq_2, q_insT_eq_1, q_awl_eq_1, q_awl_eq_2, q_awl_eq_5, q_awl_eq_6, q_awl_eq_10, q_AE_thenL_eq_1, q_AE_thenL_eq_3, q_AE_inBlockL_eq_1, q_AE_inBlockL_eq_3, q_putK_eq_1, q_vBin_eq_1, q_resV_eq_1, q_binV_eq_1, q_binInt_eq_3, q_cutInt_eq_1, q_cutInt_eq_8, q_cutInt_eq_11, q_vUn_eq_1, q_unV_eq_2, q_mapC_eq_1, q_vFaddr_eq_1, q_loadO_eq_1, q_isV_eq_1, q_vLoad_eq_1, q_vPick_eq_1, q_vPick_eq_2, q_isVarO_eq_1, q_mapT_eq_1, q_mapT_eq_2, q_mapO_eq_1, q_mapO_eq_2, q_endK_eq_2, q_endL_eq_1, q_endV_eq_1, q_resL_eq_1, q_resL_eq_2, q_resX_eq_1, q_one_eq_1, q_V_nrm_eq_1, q_V_nrm_eq_2, q_V_nrm_eq_5, q_K_nrm_eq_1, q_K_nrm_eq_2, q_K_nrm_eq_3, q_O_nrm_eq_1, q_V_owns_eq_1, q_K_owns_eq_2, q_V_toNew_eq_1, q_K_toNew_eq_1, q_C_norm_eq_4, q_C_norm_eq_5, q_Bool_not_true, q_Bool_not_false, q_List_map_cons, q_List_map_nil, q_List_drop_zero, true_and, if_true, if_false, Bool.false_eq_true, and_self, Int.reduceNeg, List.nodup_nil, Nat.reduceAdd, Nat.reduceLeDiff, Nat.reduceBEq, Nat.zero_add, Nat.add_zero, q_learn_eq_1, q_guardP_eq_2, q_condK_eq_1, q_condB_eq_1, q_condB_eq_2, q_exK_eq_1, condB_decide, decide_true, norm_lst, normRows_Ch, encChoice_norm, encOrder_norm, List.length_map, encChoice_len, lookT_here, lookT_next, lookO_here, f_ch0, f_ch1, r_map_nrm, uf20r57, uf20b58, uf20b59]
      refine ⟨fun h => hbad (.inr (.inl h)), fun h => ⟨fun h2 => hbad (.inr (.inr h2)), fun h2 => ?_⟩⟩
      rw [if_neg (by omega)] at hj
      exact Next.intro (i + 1, o.choices[i].ask) rfl rfl ⟨by simp only []; omega, hj⟩ (by simp only []; omega)
    · simp only [h1, c4, q_wpLs_eq_1, q_wpLs_eq_2, q_wpL_eq_1, q_putDL_eq_1, q_AOp_dst_eq_8, q_AOp_dst_eq_10, q_AOp_dst_eq_20, q_exL_eq_1, q_exL_eq_3, q_exL_eq_15, q_look_eq_1, q_look_eq_2, q_insT_eq_1, q_awl_eq_2, q_awl_eq_5, q_awl_eq_6, q_awl_eq_10, q_AE_thenL_eq_1, q_AE_thenL_eq_3, q_AE_inBlockL_eq_3, q_putK_eq_1, q_vUn_eq_1, q_unV_eq_2, q_mapC_eq_1, q_vPick_eq_2, q_mapT_eq_1, q_mapT_eq_2, q_mapO_eq_1, q_mapO_eq_2, q_endK_eq_2, q_endL_eq_1, q_endV_eq_1, q_resL_eq_1, q_resL_eq_2, q_resX_eq_1, q_one_eq_1, q_V_nrm_eq_1, q_V_nrm_eq_2, q_V_nrm_eq_5, q_K_nrm_eq_1, q_K_nrm_eq_2, q_K_nrm_eq_3, q_O_nrm_eq_1, q_V_owns_eq_1, q_K_owns_eq_2, q_V_toNew_eq_1, q_K_toNew_eq_1, q_C_norm_eq_4, q_C_norm_eq_5, q_Bool_not_false, q_List_map_cons, q_List_map_nil, true_and, and_self, Int.reduceNeg, List.nodup_nil, Nat.reduceBEq, q_learn_eq_1, q_guardP_eq_2, q_condK_eq_1, q_condB_eq_1, decide_false, norm_lst, normRows_Ch, encChoice_norm, encOrder_norm, lookT_here, lookT_next, r_map_nrm, uf20r57, uf20b58, uf20b59]
      exact hbad (.inl h1)
  · have c1 : ¬ (i : Int) < o.choices.length := by omega
    rw [List.drop_eq_nil_of_le (by omega), chs] at hj
    rw [checkO, if_neg (by rw [← hj]; simp)] at hS
    clear hj hlt hi
    simp only [c1, q_wpLs_eq_1, q_wpLs_eq_2, q_wpL_eq_1, q_exL_eq_1, q_exL_eq_8, q_exL_eq_11, q_exL_eq_21, q_exL_eq_30, q_look_eq_1, q_look_eq_2, q_insT_eq_1, q_awl_eq_2, q_awl_eq_5, q_awl_eq_6, q_awl_eq_7, q_awl_eq_9, q_AE_thenL_eq_1, q_AE_thenL_eq_2, q_AE_inBlockL_eq_2, q_putK_eq_1, q_vBin_eq_1, q_resV_eq_1, q_binV_eq_1, q_binInt_eq_3, q_cutInt_eq_8, q_vFaddr_eq_1, q_loadO_eq_1, q_isV_eq_1, q_vLoad_eq_1, q_isVarO_eq_1, true_and, if_true, Int.reduceNeg, Nat.reduceAdd, Nat.reduceBEq, Nat.zero_add, Nat.le_refl, q_learn_eq_1, q_condK_eq_1, q_condB_eq_2, decide_false, r_vLen_lst, List.length_map, encOrder_len, lookT_here, lookT_next, lookO_here, f_or3, uf20b49, uf20r50, uf20b51, uf20b52, uf20r53, uf20b54, uf20b67, uf20b68, uf20r69, uf20b70]
    rw [uf20l48]
    refine awl_loop (fun x : Nat × Int => [(1, .k (.ptr 1 0)), (3, .int .i64 x.2), (39, lst 4 (o.rules.map encRule)), (40, .int .i64 o.rules.length), (41, .int .i64 x.1)]) (fun _ => [(1, .var 25 (orV o))])
      (fun x => x.1 ≤ o.rules.length ∧ rls (o.rules.drop x.1) x.2 = rls o.rules (-1)) (fun x => o.rules.length - x.1) (0, -1) rfl rfl ⟨Nat.zero_le _, rfl⟩ ?_
    rintro ⟨i, last⟩ ⟨hi, hj⟩
    simp only [] at hi hj
    by_cases hlt : i < o.rules.length
    · have c1 : (i : Int) < o.rules.length := by omega
      have c4 : IntKind.i64.wrap ((i : Int) + 1) = (i : Int) + 1 := wrap_in (by omega) (by omega)
      rw [rls_drop hlt] at hj
      simp only [c1, c4, map_at hlt, q_wpLs_eq_1, q_wpLs_eq_2, q_wpL_eq_1, q_exL_eq_1, q_exL_eq_4, q_exL_eq_8, q_exL_eq_9, q_exL_eq_11, q_exL_eq_21, q_exL_eq_23, q_exL_eq_28, q_look_eq_1, q_insT_eq_1, q_insO_eq_1, q_awl_eq_1, q_awl_eq_2, q_awl_eq_5, q_awl_eq_6, q_awl_eq_7, q_AE_thenL_eq_1, q_putK_eq_1, q_vBin_eq_1, q_resV_eq_1, q_binV_eq_1, q_binInt_eq_3, q_cutInt_eq_8, q_vFaddr_eq_1, q_partV_eq_1, q_loadO_eq_1, q_isV_eq_1, q_vLoad_eq_1, q_vLoad_eq_2, q_V_cells_eq_2, q_splice_eq_1, q_isVarO_eq_1, q_stVarK_eq_1, q_storeK_eq_1, q_freeB_eq_1, q_freeT_eq_1, q_freeT_eq_2, q_freeO_eq_1, q_freeO_eq_2, q_V_noRef_eq_1, q_V_noRef_eq_2, q_K_noRef_eq_1, q_K_noRef_eq_3, q_K_noRef_eq_5, q_O_noRef_eq_1, q_List_map_cons, q_List_map_nil, q_List_take_zero, q_List_drop_succ_cons, q_List_drop_zero, q_List_nil_append, q_List_length_cons, q_List_length_nil, true_and, if_true, and_self, bne_iff_ne, ne_eq, Bool.and_true, Bool.true_and, Bool.or_true, Bool.false_or, Int.reduceNeg, List.append_nil, Nat.reduceAdd, Nat.reduceEqDiff, Nat.reduceLeDiff, Nat.reduceBEq, Nat.zero_add, Nat.add_zero, Int.toNat_natCast, Nat.le_refl, Int.natCast_nonneg, q_learn_eq_1, not_false_eq_true, q_condK_eq_1, q_condB_eq_1, decide_true, r_vIaddr_lst, List.length_map, encRule_len, lookT_here, lookT_next, lookO_here, f_rule0, r_all_noRef, uf20r32, uf20r33, uf20r37, uf20b38, uf20b39, uf20r40, uf20b41, uf20b42, uf20b43, uf20b44, uf20b45, uf20r46, uf20b47]
      refine call_s (s45 last o.rules[i].ask) ?_
      by_cases h1 : last < o.rules[i].ask ∧ o.rules[i].ask < 22
      · rw [if_neg (by omega)] at hj
        simp only [h1, c4, and_self, q_wpLs_eq_1, q_wpLs_eq_2, q_wpL_eq_1, q_exL_eq_1, q_exL_eq_8, q_exL_eq_11, q_exL_eq_15, q_exL_eq_21, q_look_eq_1, q_look_eq_2, q_insT_eq_1, q_awl_eq_1, q_awl_eq_2, q_awl_eq_6, q_AE_thenL_eq_1, q_AE_inBlockL_eq_1, q_putK_eq_1, q_vBin_eq_1, q_resV_eq_1, q_binV_eq_1, q_binInt_eq_3, q_cutInt_eq_1, q_vUn_eq_1, q_unV_eq_2, q_mapC_eq_1, q_vFaddr_eq_1, q_loadO_eq_1, q_isV_eq_1, q_vLoad_eq_1, q_isVarO_eq_1, q_Bool_not_true, q_List_drop_zero, true_and, if_true, and_self, Int.reduceNeg, Nat.reduceLeDiff, Nat.reduceBEq, Nat.zero_add, Nat.add_zero, q_learn_eq_1, q_condK_eq_1, q_condB_eq_2, decide_true, List.length_map, encRule_len, lookT_here, lookT_next, lookO_here, f_rule0, uf20b36]
        exact Next.intro (i + 1, o.rules[i].ask) rfl rfl ⟨by simp only []; omega, hj⟩ (by simp only []; omega)
      · rw [if_pos h1] at hj
        simp only [h1, c4, q_wpLs_eq_1, q_wpLs_eq_2, q_wpL_eq_1, q_exL_eq_1, q_exL_eq_15, q_look_eq_1, q_look_eq_2, q_insT_eq_1, q_awl_eq_2, q_awl_eq_5, q_awl_eq_6, q_awl_eq_10, q_AE_thenL_eq_1, q_AE_thenL_eq_3, q_AE_inBlockL_eq_3, q_putK_eq_1, q_vUn_eq_1, q_unV_eq_2, q_mapC_eq_1, q_mapT_eq_1, q_mapT_eq_2, q_mapO_eq_1, q_mapO_eq_2, q_endK_eq_2, q_endL_eq_1, q_endV_eq_1, q_resL_eq_1, q_resL_eq_2, q_resX_eq_1, q_one_eq_1, q_V_nrm_eq_1, q_V_nrm_eq_2, q_K_nrm_eq_1, q_K_nrm_eq_2, q_K_nrm_eq_3, q_O_nrm_eq_1, q_V_owns_eq_1, q_K_owns_eq_2, q_V_toNew_eq_1, q_K_toNew_eq_1, q_C_norm_eq_1, q_C_norm_eq_4, q_C_norm_eq_5, q_C_normRows_eq_1, q_Bool_not_false, q_List_map_cons, q_List_map_nil, q_List_isEmpty_nil, true_and, if_true, and_self, Int.reduceNeg, List.nodup_nil, q_learn_eq_1, q_condK_eq_1, q_condB_eq_1, decide_false, norm_lst, normRows_R, encRule_norm, encOrder_norm, lookT_here, r_map_nrm, uf20r34, uf20b35, uf20b36]
        exact fin hS (by rw [if_pos hj.symm])
    · have c1 : ¬ (i : Int) < o.rules.length := by omega
      rw [List.drop_eq_nil_of_le (by omega), rls] at hj
      rw [if_neg (by rw [← hj]; simp)] at hS
      have hr := hj.symm
      clear hj hlt hi
      simp only [c1, q_wpLs_eq_1, q_wpLs_eq_2, q_wpL_eq_1, q_exL_eq_11, q_exL_eq_28, q_look_eq_1, q_insT_eq_1, q_awl_eq_2, q_awl_eq_5, q_awl_eq_6, q_awl_eq_9, q_AE_thenL_eq_1, q_AE_thenL_eq_2, q_AE_inBlockL_eq_2, q_putK_eq_1, q_vBin_eq_1, q_resV_eq_1, q_binV_eq_1, q_binInt_eq_3, q_cutInt_eq_8, q_List_map_nil, true_and, if_true, Int.reduceNeg, Nat.reduceBEq, q_learn_eq_1, q_condK_eq_1, q_condB_eq_2, decide_false, lookT_here, lookT_next, uf20r30, uf20b31, uf20b44, uf20b45, uf20r46, uf20b47]
      refine call_r s44 ?_
      simp only [kindsRow_len, List.length_map, q_wpLs_eq_1, q_wpLs_eq_2, q_wpL_eq_1, q_exL_eq_1, q_exL_eq_4, q_exL_eq_8, q_exL_eq_9, q_exL_eq_21, q_exL_eq_30, q_look_eq_1, q_look_eq_2, q_insT_eq_1, q_insO_eq_1, q_awl_eq_2, q_awl_eq_5, q_awl_eq_7, q_AE_thenL_eq_1, q_putK_eq_1, q_vFaddr_eq_1, q_loadO_eq_1, q_isV_eq_1, q_vLoad_eq_1, q_V_cells_eq_2, q_splice_eq_1, q_isVarO_eq_1, q_stVarK_eq_1, q_storeK_eq_1, q_freeB_eq_1, q_freeT_eq_1, q_freeT_eq_2, q_freeO_eq_1, q_freeO_eq_2, q_V_noRef_eq_1, q_V_noRef_eq_2, q_K_noRef_eq_1, q_K_noRef_eq_3, q_O_noRef_eq_1, q_regN_eq_2, q_V_reg_eq_4, q_freesL_eq_1, q_addsL_eq_1, q_regK_eq_1, q_retK_eq_2, q_List_map_cons, q_List_map_nil, q_List_take_zero, q_List_drop_succ_cons, q_List_drop_zero, q_List_nil_append, q_List_length_cons, q_List_length_nil, true_and, bne_iff_ne, ne_eq, Bool.and_true, Bool.true_and, Bool.or_true, Bool.false_or, List.append_nil, Nat.reduceAdd, Nat.reduceMul, Nat.reduceEqDiff, Nat.reduceBEq, Nat.zero_add, Nat.le_refl, not_false_eq_true, r_vLen_lst, List.length_map, encOrder_len, lookT_here, lookT_next, lookO_here, lookO_next, f_or3, r_all_noRef, uf20b26, uf20r27, uf20b28, uf20b29]
      rw [uf20l25]
      refine awl_loop (fun i : Nat => [(8, .k (.ptr 8 0)), (55, lst 4 (o.rules.map encRule)), (56, .int .i64 o.rules.length), (57, .int .i64 i)]) (fun _ => [(8, .var 65 (kindsRow.map .c))])
        (fun i => i ≤ o.rules.length ∧ tys (o.rules.drop i) = tys o.rules) (fun i => o.rules.length - i) 0 rfl rfl ⟨Nat.zero_le _, rfl⟩ ?_
      rintro i ⟨hi, hj⟩
      by_cases hlt : i < o.rules.length
      · have c1 : (i : Int) < o.rules.length := by omega
        have c4 : IntKind.i64.wrap ((i : Int) + 1) = (i : Int) + 1 := wrap_in (by omega) (by omega)
        rw [tys_drop hlt] at hj
        obtain ⟨q1, q2⟩ := rls_range _ _ hr o.rules[i] (List.getElem_mem hlt)
        have q3 : 0 ≤ o.rules[i].ask := by omega
        have q4 := kinds_at q3 q2
        have q5 : o.rules[i].ask.toNat + 1 ≤ 22 := by omega
        simp only [c1, c4, map_at hlt, q_wpLs_eq_1, q_wpLs_eq_2, q_wpL_eq_1, q_exL_eq_4, q_exL_eq_8, q_exL_eq_9, q_exL_eq_11, q_exL_eq_21, q_exL_eq_23, q_exL_eq_28, q_look_eq_1, q_insT_eq_1, q_insO_eq_1, q_awl_eq_1, q_awl_eq_2, q_awl_eq_5, q_awl_eq_6, q_awl_eq_7, q_AE_thenL_eq_1, q_putK_eq_1, q_vBin_eq_1, q_resV_eq_1, q_binV_eq_1, q_binInt_eq_3, q_cutInt_eq_8, q_vFaddr_eq_1, q_partV_eq_1, q_loadO_eq_1, q_isV_eq_1, q_vLoad_eq_1, q_vLoad_eq_2, q_V_cells_eq_2, q_splice_eq_1, q_isVarO_eq_1, q_stVarK_eq_1, q_storeK_eq_1, q_freeB_eq_1, q_freeT_eq_1, q_freeT_eq_2, q_freeO_eq_1, q_freeO_eq_2, q_V_noRef_eq_1, q_V_noRef_eq_2, q_K_noRef_eq_1, q_K_noRef_eq_3, q_K_noRef_eq_5, q_O_noRef_eq_1, q_List_map_cons, q_List_map_nil, q_List_take_zero, q_List_drop_succ_cons, q_List_drop_zero, q_List_nil_append, q_List_length_cons, q_List_length_nil, true_and, if_true, and_self, bne_iff_ne, ne_eq, Bool.and_true, Bool.true_and, Bool.or_true, Bool.false_or, List.append_nil, Nat.reduceAdd, Nat.reduceEqDiff, Nat.reduceBEq, Nat.zero_add, Int.toNat_natCast, Nat.le_refl, Int.natCast_nonneg, q_learn_eq_1, not_false_eq_true, q_condK_eq_1, q_condB_eq_1, decide_true, r_vIaddr_lst, List.length_map, encRule_len, lookT_here, lookT_next, lookO_here, f_rule1, r_all_noRef, uf20r3, uf20r15, uf20b16, uf20r17, uf20b18, uf20b19, uf20b20, uf20b21, uf20b22, uf20r23, uf20b24]
        refine call_s (s31 o.rules[i].term) ?_
        simp only [pairV, q2, q3, q4, q5, c4, kindsRow_len, List.length_map, q_wpLs_eq_1, q_wpLs_eq_2, q_wpL_eq_1, q_exL_eq_1, q_exL_eq_8, q_exL_eq_11, q_exL_eq_21, q_exL_eq_24, q_exL_eq_27, q_look_eq_1, q_look_eq_2, q_insT_eq_1, q_awl_eq_1, q_awl_eq_2, q_awl_eq_5, q_awl_eq_6, q_awl_eq_10, q_AE_thenL_eq_1, q_AE_thenL_eq_3, q_AE_inBlockL_eq_1, q_AE_inBlockL_eq_3, q_putK_eq_1, q_vBin_eq_1, q_resV_eq_1, q_binV_eq_1, q_binInt_eq_3, q_cutInt_eq_1, q_cutInt_eq_7, q_vExtr_eq_1, q_vFaddr_eq_1, q_loadO_eq_1, q_isV_eq_1, q_vLoad_eq_1, q_vIaddrA_eq_1, q_ofRow_eq_1, q_pureRow_eq_1, q_pureRow_eq_2, q_isVarO_eq_1, q_mapT_eq_1, q_mapT_eq_2, q_mapO_eq_1, q_mapO_eq_2, q_endK_eq_2, q_endL_eq_1, q_endV_eq_1, q_resL_eq_1, q_resL_eq_2, q_resX_eq_1, q_one_eq_1, q_V_nrm_eq_1, q_V_nrm_eq_2, q_V_nrm_eq_4, q_K_nrm_eq_1, q_K_nrm_eq_2, q_K_nrm_eq_3, q_V_nrmL_eq_1, q_V_nrmL_eq_2, q_O_nrm_eq_1, q_V_owns_eq_1, q_K_owns_eq_2, q_V_toNew_eq_1, q_K_toNew_eq_1, q_C_norm_eq_1, q_C_norm_eq_4, q_C_norm_eq_5, q_C_normRows_eq_1, q_Option_map_some, q_List_map_cons, q_List_map_nil, q_List_drop_zero, q_List_getElemQ_cons_zero, q_List_getElemQ_cons_succ, q_List_isEmpty_nil, true_and, if_true, if_false, Bool.false_eq_true, and_self, List.nodup_nil, Nat.reduceLeDiff, Nat.reduceBEq, Nat.zero_add, Nat.add_zero, q_learn_eq_1, q_condK_eq_1, condB_bne, norm_lst, normRows_R, encT_norm, encRule_norm, List.length_map, encRule_len, lookT_here, lookT_next, Int.cast_ofNat_Int, lookO_here, lookO_next, f_rule0, Nat.mul_one, r_map_nrm, uf20r4, uf20b5, uf20b6, uf20r7, uf20b8, uf20r9, uf20b10, uf20b11, uf20r12, uf20b13, uf20b14]
        refine ⟨fun h => ?_, fun h => ⟨fun h2 => ?_, fun h2 => ?_⟩⟩
        · rw [if_pos h] at hj
          exact fin hS (by rw [← hj])
        · rw [if_neg (by simp [h]), if_pos h2] at hj
          exact fin hS (by rw [← hj])
        · rw [if_neg (by simp [h]), if_neg (by simp [h2])] at hj
          exact Next.intro (i + 1) rfl rfl ⟨by omega, hj⟩ (by omega)
      · have c1 : ¬ (i : Int) < o.rules.length := by omega
        rw [List.drop_eq_nil_of_le (by omega), tys] at hj
        simp only [c1, q_wpLs_eq_1, q_wpLs_eq_2, q_wpL_eq_1, q_exL_eq_1, q_exL_eq_11, q_look_eq_1, q_look_eq_2, q_insT_eq_1, q_awl_eq_2, q_awl_eq_5, q_awl_eq_6, q_awl_eq_9, q_awl_eq_10, q_AE_thenL_eq_1, q_AE_thenL_eq_2, q_AE_inBlockL_eq_2, q_putK_eq_1, q_vBin_eq_1, q_resV_eq_1, q_binV_eq_1, q_binInt_eq_3, q_cutInt_eq_8, q_mapT_eq_1, q_mapT_eq_2, q_mapO_eq_1, q_mapO_eq_2, q_endK_eq_2, q_endL_eq_1, q_endV_eq_1, q_resL_eq_1, q_resL_eq_2, q_resX_eq_1, q_one_eq_1, q_V_nrm_eq_1, q_K_nrm_eq_1, q_K_nrm_eq_3, q_O_nrm_eq_1, q_V_owns_eq_1, q_K_owns_eq_2, q_V_toNew_eq_1, q_K_toNew_eq_1, q_C_norm_eq_4, q_C_norm_eq_5, true_and, if_true, and_self, List.nodup_nil, Nat.reduceBEq, q_learn_eq_1, q_condK_eq_1, q_condB_eq_2, decide_false, norm_lst, normRows_R, lookT_here, lookT_next, r_map_nrm, uf20r1, uf20b2, uf20b21, uf20b22, uf20r23, uf20b24]
        exact fin hS (by rw [← hj])
theorem s18 (l : List Order) : Spec Try.prog 18 [lst 4 (l.map encOrder)] (fun r => r = pairV (ordersO l 0)) := by
  refine Spec.of_len hf18 fun hlen => ?_
  have hl := len_lst (sz := 4) (rows := l.map encOrder) List.mem_cons_self hlen
  rw [List.length_map] at hl
  clear hlen
  refine Spec.of_awlS hf18 okf18 (by simp) fun S hS => ?_
  simp only [q_wpLs_eq_1, q_wpLs_eq_2, q_wpL_eq_1, q_exL_eq_1, q_exL_eq_30, q_look_eq_1, q_look_eq_2, q_lookO_eq_1, q_insT_eq_1, q_awl_eq_2, q_awl_eq_5, q_awl_eq_7, q_AE_thenL_eq_1, q_initT_eq_1, q_initT_eq_2, q_putK_eq_1, true_and, Nat.reduceBEq, Nat.zero_add, r_vLen_lst, List.length_map, lookT_here, lookT_next, uf18, uf18b20, uf18r21, uf18b22, uf18b23, uf18r24, uf18b25]
  rw [uf18l19]
  refine awl_loop (fun i : Nat => [(7, lst 4 (l.map encOrder)), (8, .int .i64 l.length), (9, .int .i64 i)]) (fun _ => [])
    (fun i => i ≤ l.length ∧ ordersO (l.drop i) i = ordersO l 0) (fun i => l.length - i) 0 rfl rfl ⟨Nat.zero_le _, rfl⟩ ?_
  rintro i ⟨hi, hj⟩
  by_cases hlt : i < l.length
  · have c1 : (i : Int) < l.length := by omega
    have c4 : IntKind.i64.wrap ((i : Int) + 1) = (i : Int) + 1 := wrap_in (by omega) (by omega)
    rw [ordersO_drop hlt] at hj
    simp only [c1, map_at hlt, q_wpLs_eq_1, q_wpLs_eq_2, q_wpL_eq_1, q_exL_eq_1, q_exL_eq_4, q_exL_eq_8, q_exL_eq_9, q_exL_eq_11, q_exL_eq_23, q_exL_eq_28, q_look_eq_1, q_lookO_eq_1, q_insT_eq_1, q_insO_eq_1, q_awl_eq_1, q_awl_eq_2, q_awl_eq_5, q_awl_eq_6, q_awl_eq_7, q_AE_thenL_eq_1, q_putK_eq_1, q_vBin_eq_1, q_resV_eq_1, q_binV_eq_1, q_binInt_eq_3, q_cutInt_eq_8, q_partV_eq_1, q_loadO_eq_1, q_isV_eq_1, q_vLoad_eq_1, q_vLoad_eq_2, q_V_cells_eq_2, q_splice_eq_1, q_stVarK_eq_1, q_storeK_eq_1, q_freeB_eq_1, q_freeT_eq_1, q_freeT_eq_2, q_freeO_eq_1, q_V_noRef_eq_1, q_V_noRef_eq_2, q_K_noRef_eq_1, q_K_noRef_eq_5, q_List_map_cons, q_List_map_nil, q_List_take_zero, q_List_drop_succ_cons, q_List_drop_zero, q_List_nil_append, q_List_length_cons, q_List_length_nil, true_and, if_true, and_self, Bool.and_true, Bool.or_true, List.append_nil, Nat.reduceAdd, Nat.reduceBEq, Nat.zero_add, Int.toNat_natCast, Nat.le_refl, Int.natCast_nonneg, q_learn_eq_1, q_condK_eq_1, q_condB_eq_1, decide_true, r_vIaddr_lst, List.length_map, r_ofRow_take, encOrder_len, lookT_here, lookT_next, lookO_here, uf18r3, uf18r9, uf18b10, uf18r11, uf18b12, uf18b13, uf18b14, uf18b15, uf18b16, uf18r17, uf18b18]
    refine call_s (s20 l[i]) ?_
    simp only [c4, q_wpLs_eq_1, q_wpLs_eq_2, q_wpL_eq_1, q_exL_eq_1, q_exL_eq_11, q_look_eq_1, q_look_eq_2, q_insT_eq_1, q_awl_eq_1, q_awl_eq_2, q_awl_eq_5, q_awl_eq_6, q_awl_eq_10, q_AE_thenL_eq_1, q_AE_thenL_eq_3, q_AE_inBlockL_eq_1, q_AE_inBlockL_eq_3, q_putK_eq_1, q_vBin_eq_1, q_resV_eq_1, q_binV_eq_1, q_binInt_eq_3, q_cutInt_eq_1, q_cutInt_eq_7, q_mapT_eq_1, q_mapT_eq_2, q_mapO_eq_1, q_mapO_eq_2, q_endK_eq_2, q_endL_eq_1, q_endV_eq_1, q_resL_eq_1, q_resL_eq_2, q_resX_eq_1, q_one_eq_2, q_V_nrm_eq_1, q_V_nrm_eq_2, q_K_nrm_eq_1, q_K_nrm_eq_2, q_K_nrm_eq_3, q_O_nrm_eq_1, q_V_owns_eq_1, q_V_owns_eq_3, q_K_owns_eq_2, q_V_ownsL_eq_1, q_V_ownsL_eq_2, q_V_toNew_eq_1, q_V_toNew_eq_4, q_K_toNew_eq_1, q_V_toNewL_eq_1, q_V_toNewL_eq_2, q_C_norm_eq_1, q_C_norm_eq_4, q_C_norm_eq_5, q_C_norm_eq_6, q_C_normRows_eq_1, q_List_map_cons, q_List_map_nil, q_List_isEmpty_nil, true_and, if_true, and_self, List.append_nil, List.nodup_nil, Nat.reduceBEq, q_learn_eq_1, q_condK_eq_1, condB_bne, norm_lst, normRows_O, encOrder_norm, lookT_here, lookT_next, r_map_nrm, uf18r4, uf18b5, uf18b6, uf18r7, uf18b8]
    refine ⟨fun h => ?_, fun h => ?_⟩
    · rw [if_pos h] at hj
      exact fin hS (by rw [← hj]; rfl)
    · rw [if_neg (by simp [h])] at hj
      exact Next.intro (i + 1) rfl rfl ⟨by omega, hj⟩ (by omega)
  · have c1 : ¬ (i : Int) < l.length := by omega
    rw [List.drop_eq_nil_of_le (by omega), ordersO] at hj
    simp only [c1, q_wpLs_eq_1, q_wpLs_eq_2, q_wpL_eq_1, q_exL_eq_1, q_exL_eq_11, q_look_eq_1, q_look_eq_2, q_lookO_eq_1, q_insT_eq_1, q_awl_eq_2, q_awl_eq_5, q_awl_eq_6, q_awl_eq_9, q_awl_eq_10, q_AE_thenL_eq_1, q_AE_thenL_eq_2, q_AE_inBlockL_eq_2, q_putK_eq_1, q_vBin_eq_1, q_resV_eq_1, q_binV_eq_1, q_binInt_eq_3, q_cutInt_eq_8, q_mapT_eq_1, q_mapT_eq_2, q_mapO_eq_1, q_endK_eq_2, q_endL_eq_1, q_endV_eq_1, q_resL_eq_1, q_resL_eq_2, q_resX_eq_1, q_one_eq_2, q_V_nrm_eq_1, q_K_nrm_eq_1, q_V_owns_eq_1, q_V_owns_eq_3, q_K_owns_eq_2, q_V_ownsL_eq_1, q_V_ownsL_eq_2, q_V_toNew_eq_1, q_V_toNew_eq_4, q_K_toNew_eq_1, q_V_toNewL_eq_1, q_V_toNewL_eq_2, q_C_norm_eq_4, q_C_norm_eq_5, true_and, if_true, and_self, Int.reduceNeg, List.append_nil, List.nodup_nil, Nat.reduceBEq, q_learn_eq_1, q_condK_eq_1, q_condB_eq_2, decide_false, norm_lst, normRows_O, lookT_here, lookT_next, uf18r1, uf18b2, uf18b15, uf18b16, uf18r17, uf18b18]
    exact fin hS (by rw [← hj]; rfl)
end Go.Abs

set_option maxRecDepth 100000
set_option maxHeartbeats 4000000
namespace Go.Abs
open Go.Proofs
/-- the question before place i -/
def Last (asks : List Int) (i : Nat) (last : Int) : Prop := (i = 0 ∧ last = -1) ∨ ∃ m, i = m + 1 ∧ asks[m]? = some last ∧ 0 ≤ last
theorem s21 (o : Order) : Spec Try.prog 21 [.agg (encOrder o)] (fun r => r = .int .i64 (checkO o)) := by
  refine Spec.of_len hf21 fun hlen => ?_
  have hl := len_rules (o := o) List.mem_cons_self hlen
  clear hlen
  obtain ⟨hl1, hl2⟩ := hl
  refine Spec.of_awlS hf21 okf21 (by simp) fun S hS => ?_
  simp only [q_wpLs_eq_1, q_wpLs_eq_2, q_wpL_eq_1, q_exL_eq_1, q_exL_eq_5, q_look_eq_1, q_look_eq_2, q_insT_eq_1, q_insO_eq_1, q_awl_eq_2, q_awl_eq_5, q_awl_eq_7, q_AE_thenL_eq_1, q_initT_eq_1, q_initT_eq_2, q_boxK_eq_1, q_freeB_eq_1, q_freeT_eq_1, q_freeT_eq_2, q_freeO_eq_1, q_V_noRef_eq_2, true_and, Bool.and_true, Bool.or_true, Nat.reduceBEq, Nat.zero_add, lookT_here, uf21, uf21b64, uf21r65, uf21b66, uf21b67, uf21r68, uf21b69]
  rw [uf21l63]
  refine awl_loop (fun x : Nat × Int => [(1, .k (.ptr 1 0)), (3, .int .i64 x.1)]) (fun _ => [(1, .var 25 (orV o))])
    (fun x => x.1 ≤ o.choices.length ∧ chs (o.choices.drop x.1) x.2 = chs o.choices (-1) ∧ Last (o.choices.map (·.ask)) x.1 x.2) (fun x => o.choices.length - x.1) (0, -1) rfl rfl ⟨Nat.zero_le _, rfl, .inl ⟨rfl, rfl⟩⟩ ?_
  rintro ⟨i, last⟩ ⟨hi, hj, hL⟩
  simp only [] at hi hj hL
  by_cases hlt : i < o.choices.length
  · have c1 : (i : Int) < o.choices.length := by omega
    have c4 : IntKind.i64.wrap ((i : Int) + 1) = (i : Int) + 1 := wrap_in (by omega) (by omega)
    rw [chs_drop hlt] at hj
    have hbad : (¬ (last < o.choices[i].ask ∧ o.choices[i].ask < 22) ∨ o.choices[i].by_ < 0 ∨ o.choices[i].by_ ≥ 5) → S (.k (.c (.int .i64 1))) := by
      intro h
      rw [if_pos h] at hj
      exact fin hS (by rw [checkO, if_pos hj.symm])
    have hgo : ¬ (¬ (last < o.choices[i].ask ∧ o.choices[i].ask < 22) ∨ o.choices[i].by_ < 0 ∨ o.choices[i].by_ ≥ 5) → 0 ≤ o.choices[i].ask → (chs (o.choices.drop (i + 1)) o.choices[i].ask = chs o.choices (-1) ∧ Last (o.choices.map (·.ask)) (i + 1) o.choices[i].ask) := by
      intro h h2
      rw [if_neg h] at hj
      exact ⟨hj, .inr ⟨i, rfl, by simp [hlt], h2⟩⟩
    clear hj
    rcases hL with ⟨rfl, rfl⟩ | ⟨m, rfl, hm, h0⟩
    · have c2 : ¬ ((0 : Nat) : Int) > 0 := by omega
      simp only [Int.natCast_zero] at c1 c4
      simp only [c1, c4, c2, map_at hlt, q_wpLs_eq_1, q_wpLs_eq_2, q_wpLQs_eq_1, q_wpLQs_eq_2, q_wpL_eq_1, q_wpLQ_eq_1, q_putDL_eq_1, q_AOp_dst_eq_1, q_AOp_dst_eq_3, q_AOp_dst_eq_8, q_AOp_dst_eq_10, q_AOp_dst_eq_20, q_AOp_dst_eq_22, q_exL_eq_1, q_exL_eq_4, q_exL_eq_8, q_exL_eq_9, q_exL_eq_11, q_exL_eq_21, q_exL_eq_23, q_exL_eq_30, q_exLQ_eq_1, q_exLQ_eq_3, q_exLQ_eq_9, q_exLQ_eq_12, q_exLQ_eq_22, q_look_eq_1, q_look_eq_2, q_insT_eq_1, q_insO_eq_1, q_awl_eq_1, q_awl_eq_2, q_awl_eq_3, q_awl_eq_5, q_awl_eq_6, q_awl_eq_7, q_awl_eq_10, q_AE_thenL_eq_1, q_AE_thenL_eq_3, q_AE_inBlockL_eq_1, q_AE_inBlockL_eq_3, q_putK_eq_1, q_vBin_eq_1, q_resV_eq_1, q_binV_eq_1, q_binInt_eq_3, q_cutInt_eq_1, q_cutInt_eq_8, q_cutInt_eq_10, q_cutInt_eq_11, q_vFaddr_eq_1, q_partV_eq_1, q_loadO_eq_1, q_isV_eq_1, q_vLoad_eq_1, q_vLoad_eq_2, q_vPick_eq_1, q_vPick_eq_2, q_vPick_eq_3, q_V_cells_eq_2, q_splice_eq_1, q_isVarO_eq_1, q_stVarK_eq_1, q_storeK_eq_1, q_mapT_eq_1, q_mapT_eq_2, q_mapO_eq_1, q_mapO_eq_2, q_freeB_eq_1, q_freeT_eq_1, q_freeT_eq_2, q_freeO_eq_1, q_freeO_eq_2, q_V_noRef_eq_1, q_V_noRef_eq_2, q_K_noRef_eq_1, q_K_noRef_eq_3, q_K_noRef_eq_5, q_O_noRef_eq_1, q_endK_eq_2, q_endL_eq_1, q_endV_eq_1, q_resL_eq_1, q_resL_eq_2, q_resX_eq_1, q_one_eq_1, q_V_nrm_eq_1, q_V_nrm_eq_2, q_V_nrm_eq_5, q_K_nrm_eq_1, q_K_nrm_eq_2, q_K_nrm_eq_3, q_O_nrm_eq_1, q_V_owns_eq_1, q_K_owns_eq_2, q_V_toNew_eq_1, q_K_toNew_eq_1, q_C_norm_eq_4, q_C_norm_eq_5, q_Bool_not_true, q_Bool_not_false, q_List_map_cons, q_List_map_nil, q_List_take_zero, q_List_drop_succ_cons, q_List_drop_zero, q_List_nil_append, q_List_length_cons, q_List_length_nil, true_and, if_true, if_false, Bool.false_eq_true, and_self, bne_iff_ne, ne_eq, Bool.and_eq_true, Bool.and_true, Bool.true_and, Bool.or_true, Bool.false_or, Int.reduceNeg, List.append_nil, List.nodup_nil, Nat.reduceAdd, Nat.reduceEqDiff, Nat.reduceLeDiff, Nat.reduceBEq, Nat.zero_add, Nat.add_zero, Int.toNat_zero, Nat.le_refl, q_learn_eq_1, not_false_eq_true, q_guardP_eq_1, q_guardP_eq_2, q_guardP_eq_3, q_condK_eq_1, q_condB_eq_1, q_condB_eq_2, q_exKQ_eq_1, condB_decide, decide_true, decide_false, r_vLen_lst, r_vIaddr_lst, norm_lst, normRows_Ch, encChoice_norm, encOrder_norm, List.length_map, encOrder_len, encChoice_len, lookT_here, lookT_next, Int.reduceLE, Int.reduceGT, Int.reduceAdd, Int.cast_ofNat_Int, lookO_here, f_ch0, f_ch1, f_or2, r_all_noRef, r_map_nrm, uf21r49, uf21r50, uf21b51, uf21b52, uf21r53, uf21b54, uf21r55, uf21b56, uf21b57, uf21b58, uf21b59, uf21r60, uf21b61, uf21b62]
      refine ⟨fun h => hbad (by omega), fun h1 => ⟨fun h => hbad (by omega), fun h2 => ⟨fun h => hbad (by omega), fun h3 => ⟨fun h => hbad (by omega), fun h4 => ?_⟩⟩⟩⟩
      obtain ⟨g1, g2⟩ := hgo (by omega) (by omega)
      exact Next.intro (0 + 1, o.choices[0].ask) rfl rfl ⟨by simp only []; omega, g1, g2⟩ (by simp only []; omega)
    · have c2 : (((m + 1 : Nat) : Int)) > 0 := by omega
      have c5 : IntKind.i64.wrap (((m + 1 : Nat) : Int) - 1) = (m : Int) := by rw [wrap_in (by omega) (by omega)]; omega
      have hm1 : m < o.choices.length := by omega
      have c6 : (m : Int) < o.choices.length := by omega
      have hml : o.choices[m].ask = last := by
        rw [List.getElem?_map, List.getElem?_eq_getElem hm1] at hm
        simpa using hm
      simp only [c1, c4, c2, c5, c6, map_at hlt, map_at hm1, q_wpLs_eq_1, q_wpLs_eq_2, q_wpLQs_eq_1, q_wpLQs_eq_2, q_wpL_eq_1, q_wpLQ_eq_1, q_putDL_eq_1, q_AOp_dst_eq_1, q_AOp_dst_eq_3, q_AOp_dst_eq_8, q_AOp_dst_eq_10, q_AOp_dst_eq_20, q_AOp_dst_eq_22, q_exL_eq_1, q_exL_eq_4, q_exL_eq_8, q_exL_eq_9, q_exL_eq_11, q_exL_eq_21, q_exL_eq_23, q_exL_eq_30, q_exLQ_eq_1, q_exLQ_eq_3, q_exLQ_eq_9, q_exLQ_eq_12, q_exLQ_eq_22, q_exLQ_eq_24, q_look_eq_1, q_look_eq_2, q_insT_eq_1, q_insO_eq_1, q_awl_eq_1, q_awl_eq_2, q_awl_eq_3, q_awl_eq_5, q_awl_eq_6, q_awl_eq_7, q_awl_eq_10, q_AE_thenL_eq_1, q_AE_thenL_eq_3, q_AE_inBlockL_eq_1, q_AE_inBlockL_eq_3, q_putK_eq_1, q_vBin_eq_1, q_resV_eq_1, q_binV_eq_1, q_binInt_eq_3, q_cutInt_eq_1, q_cutInt_eq_2, q_cutInt_eq_8, q_cutInt_eq_10, q_cutInt_eq_11, q_vFaddr_eq_1, q_vFaddr_eq_3, q_partV_eq_1, q_partV_eq_2, q_loadO_eq_1, q_isV_eq_1, q_vLoad_eq_1, q_vLoad_eq_2, q_vPick_eq_1, q_vPick_eq_2, q_V_cells_eq_2, q_splice_eq_1, q_isVarO_eq_1, q_stVarK_eq_1, q_storeK_eq_1, q_mapT_eq_1, q_mapT_eq_2, q_mapO_eq_1, q_mapO_eq_2, q_freeB_eq_1, q_freeT_eq_1, q_freeT_eq_2, q_freeO_eq_1, q_freeO_eq_2, q_V_noRef_eq_1, q_V_noRef_eq_2, q_K_noRef_eq_1, q_K_noRef_eq_3, q_K_noRef_eq_5, q_O_noRef_eq_1, q_endK_eq_2, q_endL_eq_1, q_endV_eq_1, q_resL_eq_1, q_resL_eq_2, q_resX_eq_1, q_one_eq_1, q_V_nrm_eq_1, q_V_nrm_eq_2, q_V_nrm_eq_5, q_K_nrm_eq_1, q_K_nrm_eq_2, q_K_nrm_eq_3, q_O_nrm_eq_1, q_V_owns_eq_1, q_K_owns_eq_2, q_V_toNew_eq_1, q_K_toNew_eq_1, q_C_norm_eq_4, q_C_norm_eq_5, q_Bool_not_true, q_Bool_not_false, q_List_map_cons, q_List_map_nil, q_List_take_zero, q_List_drop_succ_cons, q_List_drop_zero, q_List_nil_append, q_List_length_cons, q_List_length_nil, true_and, if_true, if_false, Bool.false_eq_true, and_self, bne_iff_ne, ne_eq, Bool.and_eq_true, Bool.and_true, Bool.true_and, Bool.or_true, Bool.false_or, Int.reduceNeg, List.append_nil, List.nodup_nil, Nat.reduceAdd, Nat.reduceEqDiff, Nat.reduceLeDiff, Nat.reduceBEq, Nat.zero_add, Nat.add_zero, Int.toNat_natCast, Nat.le_refl, Int.natCast_nonneg, q_learn_eq_1, not_false_eq_true, q_guardP_eq_1, q_guardP_eq_2, q_guardP_eq_3, q_condK_eq_1, q_condB_eq_1, q_condB_eq_2, q_exKQ_eq_1, condB_decide, decide_true, r_vLen_lst, r_vIaddr_lst, norm_lst, normRows_Ch, encChoice_norm, encOrder_norm, List.length_map, encOrder_len, encChoice_len, lookT_here, lookT_next, lookO_here, lookO_next, f_ch0, f_ch1, g_ch0, f_or2, r_all_noRef, r_map_nrm, uf21r49, uf21r50, uf21b51, uf21b52, uf21r53, uf21b54, uf21r55, uf21b56, uf21b57, uf21b58, uf21b59, uf21r60, uf21b61, uf21b62]
      rw [hml]
      refine ⟨fun h => hbad (by omega), fun h1 => ⟨fun h => hbad (by omega), fun h2 => ⟨fun h => hbad (by omega), fun h3 => ⟨fun h => hbad (by omega), fun h4 => ⟨fun h => hbad (by omega), fun h5 => ?_⟩⟩⟩⟩⟩
      obtain ⟨g1, g2⟩ := hgo (by omega) (by omega)
      exact Next.intro (m + 1 + 1, o.choices[m + 1].ask) rfl rfl ⟨by simp only []; omega, g1, g2⟩ (by simp only []; omega)
  · have c1 : ¬ (i : Int) < o.choices.length := by omega
    rw [List.drop_eq_nil_of_le (by omega), chs] at hj
    rw [checkO, if_neg (by rw [← hj]; simp)] at hS
    simp only [c1, q_wpLs_eq_1, q_wpLs_eq_2, q_wpL_eq_1, q_exL_eq_1, q_exL_eq_8, q_exL_eq_11, q_exL_eq_21, q_exL_eq_30, q_look_eq_1, q_look_eq_2, q_insT_eq_1, q_awl_eq_2, q_awl_eq_5, q_awl_eq_6, q_awl_eq_7, q_awl_eq_9, q_AE_thenL_eq_1, q_AE_thenL_eq_2, q_AE_inBlockL_eq_2, q_putK_eq_1, q_vBin_eq_1, q_resV_eq_1, q_binV_eq_1, q_binInt_eq_3, q_cutInt_eq_8, q_vFaddr_eq_1, q_loadO_eq_1, q_isV_eq_1, q_vLoad_eq_1, q_isVarO_eq_1, true_and, if_true, Int.reduceNeg, Nat.reduceAdd, Nat.reduceLeDiff, Nat.reduceBEq, Nat.zero_add, q_learn_eq_1, q_condK_eq_1, q_condB_eq_2, decide_false, r_vLen_lst, List.length_map, encOrder_len, lookT_here, lookT_next, lookO_here, f_or2, uf21b45, uf21r46, uf21b47, uf21b48, uf21b59, uf21r60, uf21b61, uf21b62]
    rw [uf21l44]
    clear hj hL
    refine awl_loop (fun x : Nat × Int => [(1, .k (.ptr 1 0)), (5, .int .i64 x.1)]) (fun _ => [(1, .var 25 (orV o))])
      (fun x => x.1 ≤ o.rules.length ∧ rls (o.rules.drop x.1) x.2 = rls o.rules (-1) ∧ Last (o.rules.map (·.ask)) x.1 x.2) (fun x => o.rules.length - x.1) (0, -1) rfl rfl ⟨Nat.zero_le _, rfl, .inl ⟨rfl, rfl⟩⟩ ?_
    rintro ⟨i, last⟩ ⟨hi, hj, hL⟩
    simp only [] at hi hj hL
    by_cases hlt : i < o.rules.length
    · have c1 : (i : Int) < o.rules.length := by omega
      have c4 : IntKind.i64.wrap ((i : Int) + 1) = (i : Int) + 1 := wrap_in (by omega) (by omega)
      rw [rls_drop hlt] at hj
      have hbad : (¬ (last < o.rules[i].ask ∧ o.rules[i].ask < 22)) → S (.k (.c (.int .i64 1))) := by
        intro h
        rw [if_pos h] at hj
        exact fin hS (by rw [if_pos hj.symm])
      have hgo : (last < o.rules[i].ask ∧ o.rules[i].ask < 22) → 0 ≤ o.rules[i].ask → (rls (o.rules.drop (i + 1)) o.rules[i].ask = rls o.rules (-1) ∧ Last (o.rules.map (·.ask)) (i + 1) o.rules[i].ask) := by
        intro h h2
        rw [if_neg (by simpa using h)] at hj
        exact ⟨hj, .inr ⟨i, rfl, by simp [hlt], h2⟩⟩
      clear hj
      rcases hL with ⟨rfl, rfl⟩ | ⟨m, rfl, hm, h0⟩
      · have c2 : ¬ ((0 : Nat) : Int) > 0 := by omega
        simp only [Int.natCast_zero] at c1 c4
        simp only [c1, c4, c2, map_at hlt, q_wpLs_eq_1, q_wpLs_eq_2, q_wpL_eq_1, q_putDL_eq_1, q_AOp_dst_eq_1, q_AOp_dst_eq_3, q_AOp_dst_eq_8, q_AOp_dst_eq_10, q_AOp_dst_eq_20, q_AOp_dst_eq_22, q_exL_eq_1, q_exL_eq_3, q_exL_eq_8, q_exL_eq_11, q_exL_eq_21, q_exL_eq_23, q_exL_eq_30, q_look_eq_1, q_look_eq_2, q_insT_eq_1, q_awl_eq_1, q_awl_eq_2, q_awl_eq_5, q_awl_eq_6, q_awl_eq_7, q_awl_eq_10, q_AE_thenL_eq_1, q_AE_thenL_eq_3, q_AE_inBlockL_eq_1, q_AE_inBlockL_eq_3, q_putK_eq_1, q_vBin_eq_1, q_resV_eq_1, q_binV_eq_1, q_binInt_eq_3, q_cutInt_eq_1, q_cutInt_eq_8, q_cutInt_eq_10, q_cutInt_eq_11, q_vFaddr_eq_1, q_vFaddr_eq_3, q_partV_eq_2, q_loadO_eq_1, q_isV_eq_1, q_vLoad_eq_1, q_vLoad_eq_2, q_vPick_eq_1, q_vPick_eq_2, q_vPick_eq_3, q_isVarO_eq_1, q_mapT_eq_1, q_mapT_eq_2, q_mapO_eq_1, q_mapO_eq_2, q_endK_eq_2, q_endL_eq_1, q_endV_eq_1, q_resL_eq_1, q_resL_eq_2, q_resX_eq_1, q_one_eq_1, q_V_nrm_eq_1, q_V_nrm_eq_5, q_K_nrm_eq_1, q_K_nrm_eq_2, q_K_nrm_eq_3, q_O_nrm_eq_1, q_V_owns_eq_1, q_K_owns_eq_2, q_V_toNew_eq_1, q_K_toNew_eq_1, q_C_norm_eq_4, q_C_norm_eq_5, q_Bool_not_true, q_Bool_not_false, true_and, if_true, if_false, Bool.false_eq_true, and_self, Int.reduceNeg, List.nodup_nil, Nat.reduceAdd, Nat.reduceLeDiff, Nat.reduceBEq, Nat.zero_add, Nat.add_zero, Int.toNat_zero, Nat.le_refl, q_learn_eq_1, q_guardP_eq_1, q_guardP_eq_2, q_guardP_eq_3, q_condK_eq_1, q_condB_eq_1, q_condB_eq_2, q_exK_eq_1, condB_decide, decide_true, decide_false, r_vLen_lst, r_vIaddr_lst, norm_lst, normRows_R, encOrder_norm, List.length_map, encOrder_len, lookT_here, lookT_next, Int.reduceLE, Int.reduceGT, Int.reduceAdd, Int.cast_ofNat_Int, lookO_here, g_rule0, f_or3, r_map_nrm, uf21r30, uf21r31, uf21b32, uf21b33, uf21r34, uf21b35, uf21r36, uf21b37, uf21b38, uf21b39, uf21b40, uf21r41, uf21b42, uf21b43]
        refine ⟨fun h => hbad (by omega), fun h1 => ⟨fun h => hbad (by omega), fun h2 => ?_⟩⟩
        obtain ⟨g1, g2⟩ := hgo (by omega) (by omega)
        exact Next.intro (0 + 1, o.rules[0].ask) rfl rfl ⟨by simp only []; omega, g1, g2⟩ (by simp only []; omega)
      · have c2 : (((m + 1 : Nat) : Int)) > 0 := by omega
        have c5 : IntKind.i64.wrap (((m + 1 : Nat) : Int) - 1) = (m : Int) := by rw [wrap_in (by omega) (by omega)]; omega
        have hm1 : m < o.rules.length := by omega
        have c6 : (m : Int) < o.rules.length := by omega
        have hml : o.rules[m].ask = last := by
          rw [List.getElem?_map, List.getElem?_eq_getElem hm1] at hm
          simpa using hm
        simp only [c1, c4, c2, c5, c6, map_at hlt, map_at hm1, q_wpLs_eq_1, q_wpLs_eq_2, q_wpL_eq_1, q_putDL_eq_1, q_AOp_dst_eq_1, q_AOp_dst_eq_3, q_AOp_dst_eq_8, q_AOp_dst_eq_10, q_AOp_dst_eq_20, q_AOp_dst_eq_22, q_exL_eq_1, q_exL_eq_3, q_exL_eq_8, q_exL_eq_11, q_exL_eq_21, q_exL_eq_23, q_exL_eq_30, q_look_eq_1, q_look_eq_2, q_insT_eq_1, q_awl_eq_1, q_awl_eq_2, q_awl_eq_5, q_awl_eq_6, q_awl_eq_7, q_awl_eq_10, q_AE_thenL_eq_1, q_AE_thenL_eq_3, q_AE_inBlockL_eq_1, q_AE_inBlockL_eq_3, q_putK_eq_1, q_vBin_eq_1, q_resV_eq_1, q_binV_eq_1, q_binInt_eq_3, q_cutInt_eq_1, q_cutInt_eq_2, q_cutInt_eq_8, q_cutInt_eq_10, q_cutInt_eq_11, q_vFaddr_eq_1, q_vFaddr_eq_3, q_partV_eq_2, q_loadO_eq_1, q_isV_eq_1, q_vLoad_eq_1, q_vLoad_eq_2, q_vPick_eq_1, q_vPick_eq_2, q_isVarO_eq_1, q_mapT_eq_1, q_mapT_eq_2, q_mapO_eq_1, q_mapO_eq_2, q_endK_eq_2, q_endL_eq_1, q_endV_eq_1, q_resL_eq_1, q_resL_eq_2, q_resX_eq_1, q_one_eq_1, q_V_nrm_eq_1, q_V_nrm_eq_5, q_K_nrm_eq_1, q_K_nrm_eq_2, q_K_nrm_eq_3, q_O_nrm_eq_1, q_V_owns_eq_1, q_K_owns_eq_2, q_V_toNew_eq_1, q_K_toNew_eq_1, q_C_norm_eq_4, q_C_norm_eq_5, q_Bool_not_true, q_Bool_not_false, true_and, if_true, if_false, Bool.false_eq_true, and_self, Int.reduceNeg, List.nodup_nil, Nat.reduceAdd, Nat.reduceLeDiff, Nat.reduceBEq, Nat.zero_add, Nat.add_zero, Int.toNat_natCast, Nat.le_refl, Int.natCast_nonneg, q_learn_eq_1, q_guardP_eq_1, q_guardP_eq_2, q_guardP_eq_3, q_condK_eq_1, q_condB_eq_1, q_condB_eq_2, q_exK_eq_1, condB_decide, decide_true, r_vLen_lst, r_vIaddr_lst, norm_lst, normRows_R, encOrder_norm, List.length_map, encOrder_len, lookT_here, lookT_next, lookO_here, g_rule0, f_or3, r_map_nrm, uf21r30, uf21r31, uf21b32, uf21b33, uf21r34, uf21b35, uf21r36, uf21b37, uf21b38, uf21b39, uf21b40, uf21r41, uf21b42, uf21b43]
        rw [hml]
        refine ⟨fun h => hbad (by omega), fun h1 => ⟨fun h => hbad (by omega), fun h2 => ⟨fun h => hbad (by omega), fun h5 => ?_⟩⟩⟩
        obtain ⟨g1, g2⟩ := hgo (by omega) (by omega)
        exact Next.intro (m + 1 + 1, o.rules[m + 1].ask) rfl rfl ⟨by simp only []; omega, g1, g2⟩ (by simp only []; omega)
    · have c1 : ¬ (i : Int) < o.rules.length := by omega
      rw [List.drop_eq_nil_of_le (by omega), rls] at hj
      rw [if_neg (by rw [← hj]; simp)] at hS
      have hr := hj.symm
      simp only [c1, q_wpLs_eq_1, q_wpLs_eq_2, q_wpL_eq_1, q_exL_eq_1, q_exL_eq_8, q_exL_eq_11, q_exL_eq_21, q_exL_eq_30, q_look_eq_1, q_look_eq_2, q_insT_eq_1, q_awl_eq_2, q_awl_eq_5, q_awl_eq_6, q_awl_eq_7, q_awl_eq_9, q_AE_thenL_eq_1, q_AE_thenL_eq_2, q_AE_inBlockL_eq_2, q_putK_eq_1, q_vBin_eq_1, q_resV_eq_1, q_binV_eq_1, q_binInt_eq_3, q_cutInt_eq_8, q_vFaddr_eq_1, q_loadO_eq_1, q_isV_eq_1, q_vLoad_eq_1, q_isVarO_eq_1, true_and, if_true, Int.reduceNeg, Nat.reduceAdd, Nat.reduceBEq, Nat.zero_add, Nat.le_refl, q_learn_eq_1, q_condK_eq_1, q_condB_eq_2, decide_false, r_vLen_lst, List.length_map, encOrder_len, lookT_here, lookT_next, lookO_here, f_or3, uf21b26, uf21r27, uf21b28, uf21b29, uf21b40, uf21r41, uf21b42, uf21b43]
      rw [uf21l25]
      refine awl_loop (fun i : Nat => [(1, .k (.ptr 1 0)), (7, .int .i64 i)]) (fun _ => [(1, .var 25 (orV o))])
        (fun i => i ≤ o.rules.length ∧ tys (o.rules.drop i) = tys o.rules) (fun i => o.rules.length - i) 0 rfl rfl ⟨Nat.zero_le _, rfl⟩ ?_
      rintro i ⟨hi, hj⟩
      by_cases hlt : i < o.rules.length
      · have c1 : (i : Int) < o.rules.length := by omega
        have c4 : IntKind.i64.wrap ((i : Int) + 1) = (i : Int) + 1 := wrap_in (by omega) (by omega)
        rw [tys_drop hlt] at hj
        obtain ⟨q1, q2⟩ := rls_range _ _ hr o.rules[i] (List.getElem_mem hlt)
        simp only [c1, c4, map_at hlt, q_wpLs_eq_1, q_wpLs_eq_2, q_wpL_eq_1, q_exL_eq_1, q_exL_eq_8, q_exL_eq_11, q_exL_eq_21, q_exL_eq_23, q_exL_eq_28, q_exL_eq_30, q_look_eq_1, q_insT_eq_1, q_awl_eq_1, q_awl_eq_2, q_awl_eq_5, q_awl_eq_6, q_awl_eq_7, q_AE_thenL_eq_1, q_putK_eq_1, q_vBin_eq_1, q_resV_eq_1, q_binV_eq_1, q_binInt_eq_3, q_cutInt_eq_8, q_vFaddr_eq_1, q_vFaddr_eq_3, q_partV_eq_1, q_loadO_eq_1, q_isV_eq_1, q_vLoad_eq_1, q_vLoad_eq_2, q_isVarO_eq_1, q_List_map_cons, q_List_map_nil, true_and, if_true, if_false, and_self, Nat.reduceAdd, Nat.reduceEqDiff, Nat.reduceBEq, Nat.succ_ne_self, Nat.zero_add, Int.toNat_natCast, Nat.le_refl, Int.natCast_nonneg, q_learn_eq_1, q_condK_eq_1, q_condB_eq_1, decide_true, r_vLen_lst, r_vIaddr_lst, List.length_map, encOrder_len, lookT_here, lookT_next, lookO_here, g_rule1, f_or3, uf21r3, uf21r17, uf21b18, uf21b19, uf21b20, uf21b21, uf21r22, uf21b23, uf21b24]
        refine call_s (s32 o.rules[i].term) ?_
        simp only [pairV, c1, c4, map_at hlt, q_wpLs_eq_1, q_wpLs_eq_2, q_wpL_eq_1, q_exL_eq_1, q_exL_eq_8, q_exL_eq_11, q_exL_eq_21, q_exL_eq_23, q_exL_eq_27, q_exL_eq_28, q_look_eq_1, q_look_eq_2, q_insT_eq_1, q_awl_eq_1, q_awl_eq_2, q_awl_eq_5, q_awl_eq_6, q_awl_eq_10, q_AE_thenL_eq_1, q_AE_thenL_eq_3, q_AE_inBlockL_eq_3, q_putK_eq_1, q_vBin_eq_1, q_resV_eq_1, q_binV_eq_1, q_binInt_eq_3, q_cutInt_eq_7, q_vExtr_eq_1, q_vFaddr_eq_1, q_vFaddr_eq_3, q_partV_eq_2, q_loadO_eq_1, q_isV_eq_1, q_vLoad_eq_1, q_vLoad_eq_2, q_isVarO_eq_1, q_mapT_eq_1, q_mapT_eq_2, q_mapO_eq_1, q_mapO_eq_2, q_endK_eq_2, q_endL_eq_1, q_endV_eq_1, q_resL_eq_1, q_resL_eq_2, q_resX_eq_1, q_one_eq_1, q_V_nrm_eq_1, q_V_nrm_eq_2, q_V_nrm_eq_4, q_K_nrm_eq_1, q_K_nrm_eq_2, q_K_nrm_eq_3, q_V_nrmL_eq_1, q_V_nrmL_eq_2, q_O_nrm_eq_1, q_V_owns_eq_1, q_K_owns_eq_2, q_V_toNew_eq_1, q_K_toNew_eq_1, q_C_norm_eq_4, q_C_norm_eq_5, q_List_map_cons, q_List_map_nil, q_List_getElemQ_cons_zero, q_List_getElemQ_cons_succ, true_and, if_true, and_self, List.nodup_nil, Nat.reduceAdd, Nat.reduceLeDiff, Nat.reduceBEq, Nat.zero_add, Nat.add_zero, Int.toNat_natCast, Nat.le_refl, Int.natCast_nonneg, q_learn_eq_1, q_condK_eq_1, condB_bne, r_vIaddr_lst, norm_lst, normRows_R, encT_norm, encOrder_norm, List.length_map, encOrder_len, lookT_here, lookT_next, lookO_here, g_rule0, f_or3, r_map_nrm, uf21r9, uf21b10, uf21r11, uf21b12, uf21b13, uf21r14, uf21b15, uf21b16]
        refine ⟨fun h => ?_, fun h => ?_⟩
        · rw [if_pos h] at hj
          exact fin hS (by rw [← hj])
        rw [if_neg (by simp [h])] at hj
        have ht : typeQ o.rules[i].ask = .tup [.int .i64 (qtype o.rules[i].ask), .bool true] := by rw [typeQ, if_neg (by omega)]
        have h17 := s17 o.rules[i].ask
        rw [ht] at h17
        refine call_s h17 ?_
        simp only [c1, c4, map_at hlt, q_wpLs_eq_1, q_wpLs_eq_2, q_wpL_eq_1, q_exL_eq_1, q_exL_eq_11, q_exL_eq_27, q_look_eq_1, q_look_eq_2, q_insT_eq_1, q_awl_eq_1, q_awl_eq_2, q_awl_eq_5, q_awl_eq_6, q_awl_eq_10, q_AE_thenL_eq_1, q_AE_thenL_eq_3, q_AE_inBlockL_eq_1, q_AE_inBlockL_eq_3, q_putK_eq_1, q_vBin_eq_1, q_resV_eq_1, q_binV_eq_1, q_binInt_eq_3, q_cutInt_eq_1, q_cutInt_eq_7, q_vExtr_eq_1, q_mapT_eq_1, q_mapT_eq_2, q_mapO_eq_1, q_mapO_eq_2, q_endK_eq_2, q_endL_eq_1, q_endV_eq_1, q_resL_eq_1, q_resL_eq_2, q_resX_eq_1, q_one_eq_1, q_V_nrm_eq_1, q_V_nrm_eq_2, q_V_nrm_eq_4, q_K_nrm_eq_1, q_K_nrm_eq_2, q_K_nrm_eq_3, q_V_nrmL_eq_1, q_V_nrmL_eq_2, q_O_nrm_eq_1, q_V_owns_eq_1, q_K_owns_eq_2, q_V_toNew_eq_1, q_K_toNew_eq_1, q_C_norm_eq_4, q_C_norm_eq_5, q_List_getElemQ_cons_zero, q_List_getElemQ_cons_succ, true_and, if_true, and_self, List.nodup_nil, Nat.reduceBEq, q_learn_eq_1, q_condK_eq_1, condB_bne, norm_lst, normRows_R, encT_norm, encOrder_norm, lookT_here, lookT_next, r_map_nrm, uf21r4, uf21b5, uf21b6, uf21r7, uf21b8]
        refine ⟨fun h2 => ?_, fun h2 => ?_⟩
        · rw [if_pos h2] at hj
          exact fin hS (by rw [← hj])
        · rw [if_neg (by simp [h2])] at hj
          exact Next.intro (i + 1) rfl rfl ⟨by omega, hj⟩ (by omega)
      · have c1 : ¬ (i : Int) < o.rules.length := by omega
        rw [List.drop_eq_nil_of_le (by omega), tys] at hj
        simp only [c1, q_wpLs_eq_1, q_wpLs_eq_2, q_wpL_eq_1, q_exL_eq_1, q_exL_eq_8, q_exL_eq_11, q_exL_eq_21, q_exL_eq_30, q_look_eq_1, q_look_eq_2, q_insT_eq_1, q_awl_eq_2, q_awl_eq_5, q_awl_eq_6, q_awl_eq_9, q_awl_eq_10, q_AE_thenL_eq_1, q_AE_thenL_eq_2, q_AE_inBlockL_eq_2, q_putK_eq_1, q_vBin_eq_1, q_resV_eq_1, q_binV_eq_1, q_binInt_eq_3, q_cutInt_eq_8, q_vFaddr_eq_1, q_loadO_eq_1, q_isV_eq_1, q_vLoad_eq_1, q_isVarO_eq_1, q_mapT_eq_1, q_mapT_eq_2, q_mapO_eq_1, q_mapO_eq_2, q_endK_eq_2, q_endL_eq_1, q_endV_eq_1, q_resL_eq_1, q_resL_eq_2, q_resX_eq_1, q_one_eq_1, q_V_nrm_eq_1, q_K_nrm_eq_1, q_K_nrm_eq_3, q_O_nrm_eq_1, q_V_owns_eq_1, q_K_owns_eq_2, q_V_toNew_eq_1, q_K_toNew_eq_1, q_C_norm_eq_4, q_C_norm_eq_5, true_and, if_true, and_self, List.nodup_nil, Nat.reduceAdd, Nat.reduceBEq, Nat.zero_add, Nat.le_refl, q_learn_eq_1, q_condK_eq_1, q_condB_eq_2, decide_false, r_vLen_lst, norm_lst, normRows_R, encOrder_norm, List.length_map, encOrder_len, lookT_here, lookT_next, lookO_here, f_or3, r_map_nrm, uf21r1, uf21b2, uf21b21, uf21r22, uf21b23, uf21b24]
        exact fin hS (by rw [← hj])
theorem s19 (l : List Order) : Spec Try.prog 19 [lst 4 (l.map encOrder)] (fun r => r = pairV (ordersO l 0)) := by
  refine Spec.of_len hf19 fun hlen => ?_
  have hl := len_lst (sz := 4) (rows := l.map encOrder) List.mem_cons_self hlen
  rw [List.length_map] at hl
  clear hlen
  refine Spec.of_awlS hf19 okf19 (by simp) fun S hS => ?_
  simp only [q_wpLs_eq_1, q_wpLs_eq_2, q_wpL_eq_1, q_exL_eq_1, q_look_eq_2, q_insT_eq_1, q_awl_eq_2, q_awl_eq_5, q_awl_eq_7, q_AE_thenL_eq_1, q_initT_eq_1, q_initT_eq_2, Nat.zero_add, uf19, uf19b18, uf19r19, uf19b20, uf19b21, uf19r22, uf19b23]
  rw [uf19l17]
  refine awl_loop (fun i : Nat => [(0, lst 4 (l.map encOrder)), (4, .int .i64 i)]) (fun _ => [])
    (fun i => i ≤ l.length ∧ ordersO (l.drop i) i = ordersO l 0) (fun i => l.length - i) 0 rfl rfl ⟨Nat.zero_le _, rfl⟩ ?_
  rintro i ⟨hi, hj⟩
  by_cases hlt : i < l.length
  · have c1 : (i : Int) < l.length := by omega
    have c4 : IntKind.i64.wrap ((i : Int) + 1) = (i : Int) + 1 := wrap_in (by omega) (by omega)
    rw [ordersO_drop hlt] at hj
    simp only [c1, map_at hlt, q_wpLs_eq_1, q_wpLs_eq_2, q_wpL_eq_1, q_exL_eq_1, q_exL_eq_8, q_exL_eq_11, q_exL_eq_23, q_exL_eq_28, q_exL_eq_30, q_look_eq_1, q_lookO_eq_1, q_insT_eq_1, q_awl_eq_1, q_awl_eq_2, q_awl_eq_5, q_awl_eq_6, q_awl_eq_7, q_AE_thenL_eq_1, q_putK_eq_1, q_vBin_eq_1, q_resV_eq_1, q_binV_eq_1, q_binInt_eq_3, q_cutInt_eq_8, q_partV_eq_1, q_vLoad_eq_2, q_List_map_cons, q_List_map_nil, q_List_drop_zero, true_and, if_true, and_self, Nat.reduceBEq, Nat.zero_add, Int.toNat_natCast, Nat.le_refl, Int.natCast_nonneg, q_learn_eq_1, q_condK_eq_1, q_condB_eq_1, decide_true, r_vLen_lst, r_vIaddr_lst, List.length_map, lookT_here, lookT_next, uf19r3, uf19r9, uf19b10, uf19b11, uf19b12, uf19b13, uf19r14, uf19b15, uf19b16]
    refine call_s (s21 l[i]) ?_
    simp only [c4, q_wpLs_eq_1, q_wpLs_eq_2, q_wpL_eq_1, q_exL_eq_1, q_exL_eq_11, q_look_eq_1, q_look_eq_2, q_lookO_eq_1, q_insT_eq_1, q_awl_eq_1, q_awl_eq_2, q_awl_eq_5, q_awl_eq_6, q_awl_eq_10, q_AE_thenL_eq_1, q_AE_thenL_eq_3, q_AE_inBlockL_eq_1, q_AE_inBlockL_eq_3, q_putK_eq_1, q_vBin_eq_1, q_resV_eq_1, q_binV_eq_1, q_binInt_eq_3, q_cutInt_eq_1, q_cutInt_eq_7, q_mapT_eq_1, q_mapT_eq_2, q_mapO_eq_1, q_endK_eq_2, q_endL_eq_1, q_endV_eq_1, q_resL_eq_1, q_resL_eq_2, q_resX_eq_1, q_one_eq_2, q_V_nrm_eq_1, q_V_nrm_eq_2, q_K_nrm_eq_1, q_K_nrm_eq_2, q_V_owns_eq_1, q_V_owns_eq_3, q_K_owns_eq_2, q_V_ownsL_eq_1, q_V_ownsL_eq_2, q_V_toNew_eq_1, q_V_toNew_eq_4, q_K_toNew_eq_1, q_V_toNewL_eq_1, q_V_toNewL_eq_2, q_C_norm_eq_4, q_C_norm_eq_5, true_and, if_true, and_self, List.append_nil, List.nodup_nil, Nat.reduceBEq, q_learn_eq_1, q_condK_eq_1, condB_bne, norm_lst, normRows_O, encOrder_norm, lookT_here, lookT_next, uf19r4, uf19b5, uf19b6, uf19r7, uf19b8]
    refine ⟨fun h => ?_, fun h => ?_⟩
    · rw [if_pos h] at hj
      exact fin hS (by rw [← hj]; rfl)
    · rw [if_neg (by simp [h])] at hj
      exact Next.intro (i + 1) rfl rfl ⟨by omega, hj⟩ (by omega)
  · have c1 : ¬ (i : Int) < l.length := by omega
    rw [List.drop_eq_nil_of_le (by omega), ordersO] at hj
    simp only [c1, q_wpLs_eq_1, q_wpLs_eq_2, q_wpL_eq_1, q_exL_eq_1, q_exL_eq_11, q_exL_eq_30, q_look_eq_1, q_look_eq_2, q_lookO_eq_1, q_insT_eq_1, q_awl_eq_2, q_awl_eq_5, q_awl_eq_6, q_awl_eq_9, q_awl_eq_10, q_AE_thenL_eq_1, q_AE_thenL_eq_2, q_AE_inBlockL_eq_2, q_putK_eq_1, q_vBin_eq_1, q_resV_eq_1, q_binV_eq_1, q_binInt_eq_3, q_cutInt_eq_8, q_mapT_eq_1, q_mapT_eq_2, q_mapO_eq_1, q_endK_eq_2, q_endL_eq_1, q_endV_eq_1, q_resL_eq_1, q_resL_eq_2, q_resX_eq_1, q_one_eq_2, q_V_nrm_eq_1, q_K_nrm_eq_1, q_V_owns_eq_1, q_V_owns_eq_3, q_K_owns_eq_2, q_V_ownsL_eq_1, q_V_ownsL_eq_2, q_V_toNew_eq_1, q_V_toNew_eq_4, q_K_toNew_eq_1, q_V_toNewL_eq_1, q_V_toNewL_eq_2, q_C_norm_eq_4, q_C_norm_eq_5, true_and, if_true, and_self, Int.reduceNeg, List.append_nil, List.nodup_nil, Nat.reduceBEq, q_learn_eq_1, q_condK_eq_1, q_condB_eq_2, decide_false, r_vLen_lst, norm_lst, normRows_O, List.length_map, lookT_here, lookT_next, uf19r1, uf19b2, uf19b13, uf19r14, uf19b15, uf19b16]
    exact fin hS (by rw [← hj]; rfl)
end Go.Abs

set_option maxRecDepth 100000
set_option maxHeartbeats 4000000
namespace Go.Abs
open Go.Proofs
theorem of_orF {p : Prop} (h : p ∨ False) : p := h.elim id False.elim
def capI (q : Int) : C := .ro [.int .i64 q] 0
theorem s47 (r : Rule) (q : Int) : Spec Try.prog 47 [.agg (encRule r), .k (.c (capI q))] (fun x => x = .bool (decide (r.ask = q))) := by
  refine Spec.of_awlS hf47 okf47 (by simp) fun S hS => ?_
  simp only [capI, q_wpLs_eq_1, q_wpLs_eq_2, q_wpL_eq_1, q_exL_eq_1, q_exL_eq_5, q_exL_eq_8, q_exL_eq_11, q_exL_eq_21, q_look_eq_1, q_look_eq_2, q_insT_eq_1, q_insO_eq_1, q_awl_eq_2, q_awl_eq_5, q_awl_eq_10, q_AE_thenL_eq_1, q_initT_eq_1, q_initT_eq_2, q_putK_eq_1, q_vBin_eq_1, q_resV_eq_1, q_binV_eq_1, q_binInt_eq_3, q_cutInt_eq_6, q_vFaddr_eq_1, q_loadO_eq_1, q_isV_eq_1, q_vLoad_eq_1, q_vLoad_eq_4, q_ofRow_eq_1, q_pureRow_eq_1, q_pureRow_eq_2, q_isVarO_eq_1, q_boxK_eq_1, q_mapT_eq_1, q_mapT_eq_2, q_mapO_eq_1, q_mapO_eq_2, q_freeB_eq_1, q_freeT_eq_1, q_freeT_eq_2, q_freeO_eq_1, q_V_noRef_eq_1, q_V_noRef_eq_2, q_K_noRef_eq_1, q_endK_eq_2, q_endL_eq_1, q_endV_eq_1, q_resL_eq_1, q_resL_eq_2, q_resX_eq_1, q_one_eq_1, q_V_nrm_eq_1, q_V_nrm_eq_2, q_K_nrm_eq_1, q_K_nrm_eq_3, q_O_nrm_eq_1, q_V_owns_eq_1, q_K_owns_eq_2, q_V_toNew_eq_1, q_K_toNew_eq_1, q_C_norm_eq_2, q_C_norm_eq_4, q_C_norm_eq_5, q_C_normRow_eq_1, q_C_normRow_eq_2, q_Option_map_some, q_List_map_cons, q_List_map_nil, q_List_take_succ_cons, q_List_take_zero, q_List_drop_zero, q_List_length_cons, q_List_length_nil, true_and, if_true, if_false, Bool.false_eq_true, and_self, Bool.and_true, Bool.or_true, List.nodup_nil, Nat.reduceAdd, Nat.reduceLeDiff, Nat.reduceBEq, Nat.zero_add, Nat.add_zero, Nat.le_refl, encRule_norm, List.length_map, encRule_len, lookT_here, lookT_next, lookO_here, f_rule0, r_map_nrm, uf47, uf47r1, uf47b2, uf47r3, uf47b4]
  refine fin hS ?_
  by_cases h : r.ask = q <;> simp [h]
theorem s67 (l : List Rule) (q : Int) : Spec Try.prog 67 [lst 4 (l.map encRule), .k (.c (.fn 47 [capI q]))] (fun r => r = .int .i64 (rix l q 0)) := by
  refine Spec.of_len hf67 fun hlen => ?_
  have hl := len_lst (sz := 4) (rows := l.map encRule) List.mem_cons_self hlen
  rw [List.length_map] at hl
  clear hlen
  refine Spec.of_awlS hf67 okf67 (by simp) fun S hS => ?_
  simp only [q_wpLs_eq_1, q_wpLs_eq_2, q_wpL_eq_1, q_exL_eq_1, q_exL_eq_30, q_look_eq_1, q_look_eq_2, q_lookO_eq_1, q_insT_eq_1, q_awl_eq_2, q_awl_eq_5, q_awl_eq_7, q_AE_thenL_eq_1, q_initT_eq_1, q_initT_eq_2, q_putK_eq_1, true_and, Nat.reduceAdd, Nat.reduceBEq, Nat.zero_add, r_vLen_lst, List.length_map, lookT_here, lookT_next, uf67, uf67b18, uf67r19, uf67b20, uf67b21, uf67r22, uf67b23]
  rw [uf67l17]
  refine awl_loop (fun i : Nat => [(0, lst 4 (l.map encRule)), (1, .k (.c (.fn 47 [capI q]))), (7, .int .i64 l.length), (8, .int .i64 i)]) (fun _ => [])
    (fun i => i ≤ l.length ∧ rix (l.drop i) q i = rix l q 0) (fun i => l.length - i) 0 rfl rfl ⟨Nat.zero_le _, rfl⟩ ?_
  rintro i ⟨hi, hj⟩
  by_cases hlt : i < l.length
  · have c1 : (i : Int) < l.length := by omega
    have c4 : IntKind.i64.wrap ((i : Int) + 1) = (i : Int) + 1 := wrap_in (by omega) (by omega)
    rw [rix_drop hlt] at hj
    simp only [c1, c4, map_at hlt, q_wpLs_eq_1, q_wpLs_eq_2, q_wpL_eq_1, q_exL_eq_1, q_exL_eq_8, q_exL_eq_11, q_exL_eq_23, q_exL_eq_29, q_look_eq_1, q_lookO_eq_1, q_insT_eq_1, q_awl_eq_1, q_awl_eq_2, q_awl_eq_5, q_awl_eq_6, q_awl_eq_7, q_AE_thenL_eq_1, q_putK_eq_1, q_vBin_eq_1, q_resV_eq_1, q_binV_eq_1, q_binInt_eq_3, q_cutInt_eq_8, q_partV_eq_1, q_vLoad_eq_2, q_List_map_cons, q_List_map_nil, q_List_drop_zero, true_and, if_true, and_self, Nat.reduceBEq, Nat.zero_add, Int.toNat_natCast, Nat.le_refl, Int.natCast_nonneg, q_learn_eq_1, q_condK_eq_1, q_condB_eq_1, decide_true, r_vIaddr_lst, List.length_map, lookT_here, lookT_next, uf67r3, uf67r7, uf67b8, uf67r9, uf67b10, uf67b11, uf67b12, uf67b13, uf67b14, uf67r15, uf67b16]
    refine call_c (s47 l[i] q) ?_ (ha := by simp [lendL, V.norm, capI])
    by_cases h : l[i].ask = q
    · rw [if_pos h] at hj
      simp only [h, q_wpLs_eq_1, q_wpLs_eq_2, q_wpL_eq_1, q_exL_eq_1, q_look_eq_1, q_lookO_eq_1, q_insT_eq_1, q_awl_eq_2, q_awl_eq_5, q_awl_eq_6, q_awl_eq_10, q_AE_thenL_eq_1, q_AE_thenL_eq_3, q_AE_inBlockL_eq_3, q_mapT_eq_1, q_mapT_eq_2, q_mapO_eq_1, q_endK_eq_2, q_endL_eq_1, q_endV_eq_1, q_resL_eq_1, q_resL_eq_2, q_resX_eq_1, q_one_eq_1, q_V_nrm_eq_1, q_V_nrm_eq_2, q_K_nrm_eq_1, q_K_nrm_eq_2, q_V_owns_eq_1, q_K_owns_eq_2, q_V_toNew_eq_1, q_K_toNew_eq_1, q_C_norm_eq_3, q_C_norm_eq_4, q_C_norm_eq_5, q_C_normRow_eq_1, q_C_normRow_eq_2, true_and, and_self, List.nodup_nil, Nat.reduceBEq, q_learn_eq_1, q_condK_eq_1, q_condB_eq_1, decide_true, norm_lst, normRows_R, encRule_norm, lookT_here, lookT_next, uf67r4, uf67b5, uf67b6]
      exact fin hS (by rw [← hj])
    · rw [if_neg h] at hj
      simp only [h, c4, q_wpLs_eq_1, q_wpLs_eq_2, q_wpL_eq_1, q_exL_eq_1, q_exL_eq_11, q_look_eq_1, q_look_eq_2, q_insT_eq_1, q_awl_eq_1, q_awl_eq_2, q_awl_eq_6, q_AE_thenL_eq_1, q_AE_inBlockL_eq_1, q_putK_eq_1, q_vBin_eq_1, q_resV_eq_1, q_binV_eq_1, q_binInt_eq_3, q_cutInt_eq_1, true_and, if_true, Nat.reduceBEq, q_learn_eq_1, q_condK_eq_1, q_condB_eq_2, decide_false, lookT_here, lookT_next, uf67b6]
      exact Next.intro (i + 1) rfl rfl ⟨by omega, hj⟩ (by omega)
  · have c1 : ¬ (i : Int) < l.length := by omega
    simp only [c1, q_wpLs_eq_1, q_wpLs_eq_2, q_wpL_eq_1, q_exL_eq_1, q_exL_eq_11, q_look_eq_1, q_look_eq_2, q_lookO_eq_1, q_insT_eq_1, q_awl_eq_2, q_awl_eq_5, q_awl_eq_6, q_awl_eq_9, q_awl_eq_10, q_AE_thenL_eq_1, q_AE_thenL_eq_2, q_AE_inBlockL_eq_2, q_putK_eq_1, q_vBin_eq_1, q_resV_eq_1, q_binV_eq_1, q_binInt_eq_3, q_cutInt_eq_8, q_mapT_eq_1, q_mapT_eq_2, q_mapO_eq_1, q_endK_eq_2, q_endL_eq_1, q_endV_eq_1, q_resL_eq_1, q_resL_eq_2, q_resX_eq_1, q_one_eq_1, q_V_nrm_eq_1, q_K_nrm_eq_1, q_V_owns_eq_1, q_K_owns_eq_2, q_V_toNew_eq_1, q_K_toNew_eq_1, q_C_norm_eq_3, q_C_norm_eq_4, q_C_norm_eq_5, q_C_normRow_eq_1, q_C_normRow_eq_2, true_and, if_true, and_self, Int.reduceNeg, List.nodup_nil, Nat.reduceBEq, q_learn_eq_1, q_condK_eq_1, q_condB_eq_2, decide_false, norm_lst, normRows_R, lookT_here, lookT_next, uf67r1, uf67b2, uf67b13, uf67b14, uf67r15, uf67b16]
    rw [List.drop_eq_nil_of_le (by omega), rix] at hj
    exact fin hS (by rw [← hj])
theorem s46 (l : List Rule) (q : Int) : Spec Try.prog 46 [lst 4 (l.map encRule), .k (.c (.fn 47 [capI q]))] (fun r => r = .bool (hasR l q)) := by
  refine Spec.of_awlS hf46 okf46 (by simp) fun S hS => ?_
  simp only [q_wpLs_eq_1, q_wpLs_eq_2, q_wpL_eq_1, q_exL_eq_1, q_exL_eq_28, q_look_eq_1, q_look_eq_2, q_insT_eq_1, q_awl_eq_2, q_awl_eq_5, q_AE_thenL_eq_1, q_initT_eq_1, q_initT_eq_2, q_List_map_cons, q_List_map_nil, Nat.reduceAdd, Nat.reduceBEq, Nat.zero_add, lookT_here, lookT_next, uf46, uf46r1, uf46b2, uf46r3, uf46b4]
  refine call_s (s67 l q) ?_ (ha := by simp [lendL, V.norm, capI, lst])
  simp only [q_wpLs_eq_1, q_wpLs_eq_2, q_wpL_eq_1, q_exL_eq_1, q_exL_eq_11, q_look_eq_1, q_look_eq_2, q_lookO_eq_1, q_insT_eq_1, q_awl_eq_10, q_putK_eq_1, q_vBin_eq_1, q_resV_eq_1, q_binV_eq_1, q_binInt_eq_3, q_cutInt_eq_11, q_mapT_eq_1, q_mapT_eq_2, q_mapO_eq_1, q_endK_eq_2, q_endL_eq_1, q_endV_eq_1, q_resL_eq_1, q_resL_eq_2, q_resX_eq_1, q_one_eq_1, q_V_nrm_eq_1, q_K_nrm_eq_1, q_V_owns_eq_1, q_K_owns_eq_2, q_V_toNew_eq_1, q_K_toNew_eq_1, q_C_norm_eq_3, q_C_norm_eq_4, q_C_norm_eq_5, q_C_normRow_eq_1, q_C_normRow_eq_2, true_and, if_true, and_self, List.nodup_nil, norm_lst, normRows_R, lookT_here]
  refine fin hS ?_
  have := (rix_neg l q 0 (by omega)).2
  congr 3
  by_cases h : 0 ≤ rix l q 0
  · simp [h, this.1 h]
  · have h2 : hasR l q = false := by
      cases hh : hasR l q
      · rfl
      · exact absurd (this.2 hh) h
    simp [h2]; omega
theorem s53 (v : Int) : Spec Try.prog 53 [.int .i64 v] (fun x => x = .bool (decide (v ≥ 15))) := by
  refine Spec.of_awlS hf53 okf53 (by simp) fun S hS => ?_
  simp only [q_wpLs_eq_1, q_wpLs_eq_2, q_wpL_eq_1, q_exL_eq_1, q_exL_eq_11, q_look_eq_1, q_look_eq_2, q_lookO_eq_1, q_insT_eq_1, q_awl_eq_2, q_awl_eq_5, q_awl_eq_10, q_AE_thenL_eq_1, q_initT_eq_1, q_initT_eq_2, q_putK_eq_1, q_vBin_eq_1, q_resV_eq_1, q_binV_eq_1, q_binInt_eq_3, q_cutInt_eq_11, q_mapT_eq_1, q_mapT_eq_2, q_mapO_eq_1, q_endK_eq_2, q_endL_eq_1, q_endV_eq_1, q_resL_eq_1, q_resL_eq_2, q_resX_eq_1, q_one_eq_1, q_V_nrm_eq_1, q_K_nrm_eq_1, q_V_owns_eq_1, q_K_owns_eq_2, q_V_toNew_eq_1, q_K_toNew_eq_1, q_C_norm_eq_4, q_C_norm_eq_5, true_and, if_true, and_self, List.nodup_nil, Nat.reduceBEq, Nat.zero_add, lookT_here, lookT_next, uf53, uf53r1, uf53b2, uf53r3, uf53b4]
  exact fin hS rfl
theorem s70 (l : List Int) : Spec Try.prog 70 [lst 1 (ints l), .k (.c (.fn 53 []))] (fun r => r = .int .i64 (ixP (fun v => decide (v ≥ 15)) l 0)) := by
  refine Spec.of_len hf70 fun hlen => ?_
  have hl := len_lst (sz := 1) (rows := ints l) List.mem_cons_self hlen
  rw [ints_len] at hl
  clear hlen
  refine Spec.of_awlS hf70 okf70 (by simp) fun S hS => ?_
  simp only [q_wpLs_eq_1, q_wpLs_eq_2, q_wpL_eq_1, q_exL_eq_1, q_exL_eq_30, q_look_eq_1, q_look_eq_2, q_lookO_eq_1, q_insT_eq_1, q_awl_eq_2, q_awl_eq_5, q_awl_eq_7, q_AE_thenL_eq_1, q_initT_eq_1, q_initT_eq_2, q_putK_eq_1, true_and, Nat.reduceAdd, Nat.reduceBEq, Nat.zero_add, r_vLen_lst, ints_len, lookT_here, lookT_next, uf70, uf70b18, uf70r19, uf70b20, uf70b21, uf70r22, uf70b23]
  rw [uf70l17]
  refine awl_loop (fun i : Nat => [(0, lst 1 (ints l)), (1, .k (.c (.fn 53 []))), (7, .int .i64 l.length), (8, .int .i64 i)]) (fun _ => [])
    (fun i => i ≤ l.length ∧ ixP (fun v => decide (v ≥ 15)) (l.drop i) i = ixP (fun v => decide (v ≥ 15)) l 0) (fun i => l.length - i) 0 rfl rfl ⟨Nat.zero_le _, rfl⟩ ?_
  rintro i ⟨hi, hj⟩
  by_cases hlt : i < l.length
  · have c1 : (i : Int) < l.length := by omega
    have c4 : IntKind.i64.wrap ((i : Int) + 1) = (i : Int) + 1 := wrap_in (by omega) (by omega)
    rw [ixP_drop hlt] at hj
    simp only [c1, c4, ints_at hlt, q_wpLs_eq_1, q_wpLs_eq_2, q_wpL_eq_1, q_exL_eq_1, q_exL_eq_8, q_exL_eq_11, q_exL_eq_23, q_exL_eq_29, q_look_eq_1, q_lookO_eq_1, q_insT_eq_1, q_awl_eq_1, q_awl_eq_2, q_awl_eq_5, q_awl_eq_6, q_awl_eq_7, q_AE_thenL_eq_1, q_putK_eq_1, q_vBin_eq_1, q_resV_eq_1, q_binV_eq_1, q_binInt_eq_3, q_cutInt_eq_8, q_partV_eq_2, q_vLoad_eq_2, q_List_map_cons, q_List_map_nil, q_List_getD_cons_zero, true_and, if_true, and_self, Nat.reduceBEq, Nat.zero_add, Int.toNat_natCast, Nat.le_refl, Int.natCast_nonneg, q_learn_eq_1, q_condK_eq_1, q_condB_eq_1, decide_true, r_vIaddr_lst, ints_len, lookT_here, lookT_next, uf70r3, uf70r7, uf70b8, uf70r9, uf70b10, uf70b11, uf70b12, uf70b13, uf70b14, uf70r15, uf70b16]
    refine call_c (s53 l[i]) ?_
    by_cases h : l[i] ≥ 15
    · rw [if_pos (by simpa using h)] at hj
      simp only [h, q_wpLs_eq_1, q_wpLs_eq_2, q_wpL_eq_1, q_exL_eq_1, q_look_eq_1, q_lookO_eq_1, q_insT_eq_1, q_awl_eq_2, q_awl_eq_5, q_awl_eq_6, q_awl_eq_10, q_AE_thenL_eq_1, q_AE_thenL_eq_3, q_AE_inBlockL_eq_3, q_mapT_eq_1, q_mapT_eq_2, q_mapO_eq_1, q_endK_eq_2, q_endL_eq_1, q_endV_eq_1, q_resL_eq_1, q_resL_eq_2, q_resX_eq_1, q_one_eq_1, q_V_nrm_eq_1, q_K_nrm_eq_1, q_K_nrm_eq_2, q_V_owns_eq_1, q_K_owns_eq_2, q_V_toNew_eq_1, q_K_toNew_eq_1, q_C_norm_eq_3, q_C_norm_eq_4, q_C_norm_eq_5, q_C_normRow_eq_1, true_and, and_self, List.nodup_nil, Nat.reduceBEq, q_learn_eq_1, q_condK_eq_1, q_condB_eq_1, decide_true, norm_lst, normRows_ints, lookT_here, lookT_next, uf70r4, uf70b5, uf70b6]
      exact fin hS (by rw [← hj])
    · rw [if_neg (by simpa using h)] at hj
      simp only [h, c4, q_wpLs_eq_1, q_wpLs_eq_2, q_wpL_eq_1, q_exL_eq_1, q_exL_eq_11, q_look_eq_1, q_look_eq_2, q_insT_eq_1, q_awl_eq_1, q_awl_eq_2, q_awl_eq_6, q_AE_thenL_eq_1, q_AE_inBlockL_eq_1, q_putK_eq_1, q_vBin_eq_1, q_resV_eq_1, q_binV_eq_1, q_binInt_eq_3, q_cutInt_eq_1, true_and, if_true, Nat.reduceBEq, q_learn_eq_1, q_condK_eq_1, q_condB_eq_2, decide_false, lookT_here, lookT_next, uf70b6]
      exact Next.intro (i + 1) rfl rfl ⟨by omega, hj⟩ (by omega)
  · have c1 : ¬ (i : Int) < l.length := by omega
    simp only [c1, q_wpLs_eq_1, q_wpLs_eq_2, q_wpL_eq_1, q_exL_eq_1, q_exL_eq_11, q_look_eq_1, q_look_eq_2, q_lookO_eq_1, q_insT_eq_1, q_awl_eq_2, q_awl_eq_5, q_awl_eq_6, q_awl_eq_9, q_awl_eq_10, q_AE_thenL_eq_1, q_AE_thenL_eq_2, q_AE_inBlockL_eq_2, q_putK_eq_1, q_vBin_eq_1, q_resV_eq_1, q_binV_eq_1, q_binInt_eq_3, q_cutInt_eq_8, q_mapT_eq_1, q_mapT_eq_2, q_mapO_eq_1, q_endK_eq_2, q_endL_eq_1, q_endV_eq_1, q_resL_eq_1, q_resL_eq_2, q_resX_eq_1, q_one_eq_1, q_V_nrm_eq_1, q_K_nrm_eq_1, q_V_owns_eq_1, q_K_owns_eq_2, q_V_toNew_eq_1, q_K_toNew_eq_1, q_C_norm_eq_3, q_C_norm_eq_4, q_C_norm_eq_5, q_C_normRow_eq_1, true_and, if_true, and_self, Int.reduceNeg, List.nodup_nil, Nat.reduceBEq, q_learn_eq_1, q_condK_eq_1, q_condB_eq_2, decide_false, norm_lst, normRows_ints, lookT_here, lookT_next, uf70r1, uf70b2, uf70b13, uf70b14, uf70r15, uf70b16]
    rw [List.drop_eq_nil_of_le (by omega), ixP] at hj
    exact fin hS (by rw [← hj])
theorem s52 (l : List Int) : Spec Try.prog 52 [lst 1 (ints l), .k (.c (.fn 53 []))] (fun r => r = .bool (l.any fun v => decide (v ≥ 15))) := by
  refine Spec.of_awlS hf52 okf52 (by simp) fun S hS => ?_
  simp only [q_wpLs_eq_1, q_wpLs_eq_2, q_wpL_eq_1, q_exL_eq_1, q_exL_eq_28, q_look_eq_1, q_look_eq_2, q_insT_eq_1, q_awl_eq_2, q_awl_eq_5, q_AE_thenL_eq_1, q_initT_eq_1, q_initT_eq_2, q_List_map_cons, q_List_map_nil, Nat.reduceAdd, Nat.reduceBEq, Nat.zero_add, lookT_here, lookT_next, uf52, uf52r1, uf52b2, uf52r3, uf52b4]
  refine call_s (s70 l) ?_
  simp only [q_wpLs_eq_1, q_wpLs_eq_2, q_wpL_eq_1, q_exL_eq_1, q_exL_eq_11, q_look_eq_1, q_look_eq_2, q_lookO_eq_1, q_insT_eq_1, q_awl_eq_10, q_putK_eq_1, q_vBin_eq_1, q_resV_eq_1, q_binV_eq_1, q_binInt_eq_3, q_cutInt_eq_11, q_mapT_eq_1, q_mapT_eq_2, q_mapO_eq_1, q_endK_eq_2, q_endL_eq_1, q_endV_eq_1, q_resL_eq_1, q_resL_eq_2, q_resX_eq_1, q_one_eq_1, q_V_nrm_eq_1, q_K_nrm_eq_1, q_V_owns_eq_1, q_K_owns_eq_2, q_V_toNew_eq_1, q_K_toNew_eq_1, q_C_norm_eq_3, q_C_norm_eq_4, q_C_norm_eq_5, q_C_normRow_eq_1, true_and, if_true, and_self, List.nodup_nil, norm_lst, normRows_ints, lookT_here]
  refine fin hS ?_
  have := ixP_any (fun v => decide (v ≥ 15)) l 0 (by omega)
  generalize ixP (fun v => decide (v ≥ 15)) l 0 = n at *
  congr 3
  by_cases h : 0 ≤ n
  · have h2 := this.1 h
    rw [h2]; simp [h]
  · have h2 : (l.any fun v => decide (v ≥ 15)) = false := by
      cases hh : (l.any fun v => decide (v ≥ 15))
      · rfl
      · exact absurd (this.2 hh) h
    rw [h2]; simp; omega
/-- filters, one by one -/
def filt (p : Int → Bool) (i n : Nat) : List Int := ((List.range i).map fun (q : Nat) => (q : Int)).filter p
theorem upto_succ (i : Nat) : upto (i + 1) = upto i ++ [(i : Int)] := by simp [upto, List.range_succ]
theorem upto_filter (p : Int → Bool) (i : Nat) : (upto (i + 1)).filter p = if p i = true then (upto i).filter p ++ [(i : Int)] else (upto i).filter p := by
  rw [upto_succ, List.filter_append]
  by_cases h : p i = true <;> simp [h]
theorem filter_le (p : Int → Bool) (i : Nat) : ((upto i).filter p).length ≤ i := Nat.le_trans (List.length_filter_le _ _) (by simp [upto])
theorem s24 (o : Order) : Spec Try.prog 24 [.agg (encOrder o)] (fun r => r = .k (.newl 3 1 none (ints (gapsO o)))) := by
  refine Spec.of_awlS hf24 okf24 (by simp) fun S hS => ?_
  simp only [q_wpLs_eq_1, q_wpLs_eq_2, q_wpL_eq_1, q_exL_eq_1, q_exL_eq_2, q_exL_eq_5, q_exL_eq_7, q_look_eq_1, q_look_eq_2, q_insT_eq_1, q_insO_eq_1, q_awl_eq_2, q_awl_eq_5, q_awl_eq_7, q_AE_thenL_eq_1, q_initT_eq_1, q_initT_eq_2, q_boxK_eq_1, q_vLits_eq_1, q_bsK_eq_1, q_freeB_eq_1, q_freeT_eq_1, q_freeT_eq_2, q_freeO_eq_1, q_freeO_eq_2, q_V_noRef_eq_1, q_V_noRef_eq_2, q_K_noRef_eq_2, q_K_noRef_eq_3, q_O_noRef_eq_1, q_O_noRef_eq_2, q_List_map_nil, q_List_foldl_nil, q_List_replicate_zero, q_List_length_cons, q_List_length_nil, true_and, false_implies, implies_true, and_self, bne_iff_ne, ne_eq, Bool.and_eq_true, Bool.and_true, Bool.or_true, Bool.false_or, Nat.reduceEqDiff, Nat.reduceBEq, Nat.zero_add, not_false_eq_true, lookT_here, List.not_mem_nil, implies_true, r_all_noRef, uf24, uf24b15, uf24r16, uf24b17, uf24b18, uf24r19, uf24b20, uf24r21, uf24b22]
  rw [uf24l14]
  refine awl_loop (fun i : Nat => [(1, .k (.ptr 1 0)), (3, .k (.own 5)), (4, .int .i64 i)])
    (fun i => [(1, .var 25 ((encOrder o).map .c)), (5, .arr 3 1 (some false) (ints ((upto i).filter fun q => !(hasR o.rules q))))]) (fun i => i ≤ 22) (fun i => 22 - i) 0 rfl rfl (Nat.zero_le _) ?_
  intro i hi
  by_cases hlt : i < 22
  · have c1 : (i : Int) < 22 := by omega
    have c4 : IntKind.i64.wrap ((i : Int) + 1) = (i : Int) + 1 := wrap_in (by omega) (by omega)
    simp only [c1, c4, q_wpLs_eq_1, q_wpLs_eq_2, q_wpL_eq_1, q_exL_eq_1, q_exL_eq_8, q_exL_eq_11, q_exL_eq_28, q_look_eq_1, q_look_eq_2, q_insT_eq_1, q_awl_eq_1, q_awl_eq_2, q_awl_eq_5, q_awl_eq_6, q_awl_eq_7, q_AE_thenL_eq_1, q_putK_eq_1, q_vBin_eq_1, q_resV_eq_1, q_binV_eq_1, q_binInt_eq_3, q_cutInt_eq_8, q_loadO_eq_1, q_isV_eq_1, q_vLoad_eq_1, q_List_map_cons, q_List_map_nil, q_List_drop_zero, true_and, if_true, Nat.reduceBEq, Nat.zero_add, Nat.le_refl, q_learn_eq_1, q_condK_eq_1, q_condB_eq_1, decide_true, List.length_map, r_ofRow_take, encOrder_len, lookT_here, lookT_next, lookO_here, uf24r3, uf24r6, uf24b7, uf24b8, uf24b9, uf24b10, uf24r11, uf24b12, uf24b13]
    refine call_s (s48 o i) ?_
    have hr := rix_neg o.rules i 0 (by omega)
    have hu := upto_filter (fun q => !(hasR o.rules q)) i
    have hle := filter_le (fun q => !(hasR o.rules q)) i
    by_cases h : rix o.rules i 0 < 0
    · simp only [h, c4, q_wpLs_eq_1, q_wpLs_eq_2, q_wpL_eq_1, q_exL_eq_1, q_exL_eq_7, q_exL_eq_11, q_exL_eq_33, q_look_eq_1, q_look_eq_2, q_insT_eq_1, q_insO_eq_1, q_awl_eq_2, q_awl_eq_6, q_AE_thenL_eq_1, q_AE_inBlockL_eq_1, q_putK_eq_1, q_vBin_eq_1, q_resV_eq_1, q_binV_eq_1, q_binInt_eq_3, q_cutInt_eq_1, q_cutInt_eq_8, q_nlApp_eq_2, q_vRow_eq_1, q_vLits_eq_1, q_vLits_eq_2, q_bsK_eq_1, q_srcO_eq_1, q_srcV_eq_2, q_appK_eq_1, q_appendK_eq_1, q_mapT_eq_1, q_mapT_eq_2, q_mapO_eq_1, q_mapO_eq_2, q_delO_eq_1, q_delO_eq_2, q_freeB_eq_1, q_freeT_eq_1, q_freeT_eq_2, q_freeO_eq_1, q_freeO_eq_2, q_V_noRef_eq_1, q_V_noRef_eq_2, q_K_noRef_eq_1, q_K_noRef_eq_2, q_K_noRef_eq_3, q_O_noRef_eq_1, q_O_noRef_eq_2, q_V_scrub_eq_1, q_V_scrub_eq_3, q_K_scrub_eq_1, q_K_scrub_eq_2, q_K_scrub_eq_5, q_O_scrub_eq_1, q_O_scrub_eq_2, q_List_map_cons, q_List_map_nil, q_List_foldl_cons, q_List_foldl_nil, q_List_replicate_succ, q_List_replicate_zero, q_List_set_cons_zero, q_List_length_cons, q_List_length_nil, true_and, if_true, if_false, forall_eq, or_false, and_self, bne_iff_ne, ne_eq, Bool.and_eq_true, Bool.and_true, Bool.true_and, Bool.or_true, Bool.false_or, List.mem_cons, Nat.reduceEqDiff, Nat.reduceLeDiff, Nat.reduceLT, Nat.reduceBEq, Nat.zero_add, q_learn_eq_1, not_false_eq_true, q_condK_eq_1, q_condB_eq_1, decide_true, ints_len, lookT_here, lookT_next, lookO_here, lookO_next, List.not_mem_nil, r_all_noRef, r_map_scrub, uf24r4, uf24b5]
      refine ⟨by omega, by omega, Next.intro (i + 1) rfl ?_ (by omega) (by omega)⟩
      rw [hu, if_pos (by rw [hr.1.1 h]; rfl), ints_snoc]; rfl
    · simp only [h, c4, q_wpLs_eq_1, q_wpLs_eq_2, q_wpL_eq_1, q_exL_eq_1, q_exL_eq_11, q_look_eq_1, q_look_eq_2, q_insT_eq_1, q_awl_eq_1, q_awl_eq_2, q_awl_eq_6, q_AE_thenL_eq_1, q_AE_inBlockL_eq_1, q_putK_eq_1, q_vBin_eq_1, q_resV_eq_1, q_binV_eq_1, q_binInt_eq_3, q_cutInt_eq_1, q_cutInt_eq_8, true_and, if_true, Nat.reduceBEq, q_learn_eq_1, q_condK_eq_1, q_condB_eq_2, decide_false, lookT_here, lookT_next, uf24r4, uf24b5]
      refine Next.intro (i + 1) rfl ?_ (by omega) (by omega)
      rw [hu, if_neg (by rw [hr.2.1 (by omega)]; simp)]; rfl
  · have c1 : ¬ (i : Int) < 22 := by omega
    obtain rfl : i = 22 := by omega
    simp only [c1, q_wpLs_eq_1, q_wpLs_eq_2, q_wpL_eq_1, q_exL_eq_1, q_exL_eq_11, q_look_eq_1, q_look_eq_2, q_insT_eq_1, q_awl_eq_2, q_awl_eq_5, q_awl_eq_6, q_awl_eq_9, q_awl_eq_10, q_AE_thenL_eq_1, q_AE_thenL_eq_2, q_AE_inBlockL_eq_2, q_putK_eq_1, q_vBin_eq_1, q_resV_eq_1, q_binV_eq_1, q_binInt_eq_3, q_cutInt_eq_8, q_isArrO_eq_1, q_mapT_eq_1, q_mapT_eq_2, q_mapO_eq_1, q_mapO_eq_2, q_endK_eq_2, q_endL_eq_1, q_endV_eq_1, q_resL_eq_1, q_resL_eq_2, q_resX_eq_1, q_one_eq_1, q_V_nrm_eq_1, q_K_nrm_eq_1, q_K_nrm_eq_3, q_O_nrm_eq_1, q_O_nrm_eq_2, q_V_owns_eq_1, q_K_owns_eq_1, q_V_toNew_eq_1, q_K_toNew_eq_2, q_C_norm_eq_4, q_C_norm_eq_5, true_and, if_true, and_self, List.nodup_nil, List.nodup_cons, Nat.reduceBEq, q_learn_eq_1, not_false_eq_true, q_condK_eq_1, q_condB_eq_2, decide_false, normRows_ints, encOrder_norm, lookT_here, lookT_next, Int.reduceLT, Int.cast_ofNat_Int, lookO_here, lookO_next, List.not_mem_nil, r_map_nrm, uf24r1, uf24b2, uf24b10, uf24r11, uf24b12, uf24b13]
    exact hS
theorem s36 (t : Term) : Spec Try.prog 36 [.agg (encT t)] (fun r => r = .k (.newl 3 1 none (ints (varsT t)))) := by
  refine Spec.of_awlS hf36 okf36 (by simp) fun S hS => ?_
  simp only [q_wpLs_eq_1, q_wpLs_eq_2, q_wpL_eq_1, q_exL_eq_1, q_exL_eq_2, q_exL_eq_5, q_exL_eq_7, q_exL_eq_8, q_exL_eq_28, q_look_eq_1, q_insT_eq_1, q_insO_eq_1, q_awl_eq_2, q_awl_eq_5, q_AE_thenL_eq_1, q_initT_eq_1, q_initT_eq_2, q_putK_eq_1, q_loadO_eq_1, q_isV_eq_1, q_vLoad_eq_1, q_boxK_eq_1, q_vLits_eq_1, q_bsK_eq_1, q_freeB_eq_1, q_freeT_eq_1, q_freeT_eq_2, q_freeO_eq_1, q_freeO_eq_2, q_V_noRef_eq_1, q_V_noRef_eq_2, q_K_noRef_eq_2, q_K_noRef_eq_3, q_O_noRef_eq_1, q_O_noRef_eq_2, q_List_map_cons, q_List_map_nil, q_List_drop_zero, q_List_foldl_nil, q_List_replicate_zero, q_List_length_cons, q_List_length_nil, true_and, false_implies, implies_true, and_self, bne_iff_ne, ne_eq, Bool.and_eq_true, Bool.and_true, Bool.or_true, Bool.false_or, Nat.reduceEqDiff, Nat.reduceBEq, Nat.zero_add, Nat.le_refl, not_false_eq_true, List.length_map, r_ofRow_take, encT_len, lookT_here, lookT_next, lookO_here, lookO_next, List.not_mem_nil, implies_true, r_all_noRef, uf36, uf36r21, uf36b22, uf36r23, uf36b24, uf36r25, uf36b26]
  refine call_s (s32 t) ?_
  simp only [pairV, q_wpLs_eq_1, q_wpLs_eq_2, q_wpL_eq_1, q_exL_eq_1, q_exL_eq_27, q_look_eq_1, q_look_eq_2, q_insT_eq_1, q_awl_eq_2, q_awl_eq_5, q_awl_eq_7, q_AE_thenL_eq_1, q_putK_eq_1, q_vExtr_eq_1, q_List_getElemQ_cons_zero, q_List_getElemQ_cons_succ, true_and, Nat.reduceBEq, lookT_here, lookT_next, uf36b17, uf36r18, uf36b19, uf36b20]
  rw [uf36l16]
  refine awl_loop (fun i : Nat => [(1, .k (.ptr 1 0)), (3, .k (.own 8)), (5, .int .i64 (checkT t).2), (6, .int .i64 i)])
    (fun i => [(1, .var 41 ((encT t).map .c)), (8, .arr 3 1 (some false) (ints ((upto i).filter (used t))))]) (fun i => i ≤ 20 ∧ ((checkT t).2 ≠ 0 → i = 0)) (fun i => 20 - i) 0 rfl rfl ⟨Nat.zero_le _, fun _ => rfl⟩ ?_
  rintro i ⟨hi, h0⟩
  by_cases he : (checkT t).2 = 0
  · by_cases hlt : i < 20
    · have c1 : (i : Int) < 20 := by omega
      have c4 : IntKind.i64.wrap ((i : Int) + 1) = (i : Int) + 1 := wrap_in (by omega) (by omega)
      simp only [he, c1, c4, q_wpLs_eq_1, q_wpLs_eq_2, q_wpL_eq_1, q_AOp_dst_eq_1, q_AOp_dst_eq_10, q_exL_eq_1, q_exL_eq_3, q_exL_eq_8, q_exL_eq_11, q_exL_eq_28, q_look_eq_1, q_look_eq_2, q_insT_eq_1, q_awl_eq_1, q_awl_eq_2, q_awl_eq_5, q_awl_eq_6, q_awl_eq_7, q_AE_thenL_eq_1, q_putK_eq_1, q_vBin_eq_1, q_resV_eq_1, q_binV_eq_1, q_binInt_eq_3, q_cutInt_eq_6, q_cutInt_eq_8, q_loadO_eq_1, q_isV_eq_1, q_vLoad_eq_1, q_vPick_eq_1, q_Bool_not_true, q_List_map_cons, q_List_map_nil, q_List_drop_zero, true_and, and_true, if_true, false_implies, ne_eq, BEq.rfl, Nat.reduceBEq, Nat.zero_add, Nat.le_refl, q_learn_eq_1, not_true_eq_false, q_guardP_eq_1, q_condK_eq_1, q_condB_eq_1, q_exK_eq_1, decide_true, List.length_map, r_ofRow_take, encT_len, lookT_here, lookT_next, lookO_here, uf36r3, uf36r8, uf36b9, uf36b10, uf36b11, uf36b12, uf36r13, uf36b14, uf36b15]
      refine call_s (s63 t i) ?_
      have hu := upto_filter (used t) i
      have hle := filter_le (used t) i
      cases h : used t i
      · rw [if_neg (by simp [h])] at hu
        simp only [h, c4, q_wpLs_eq_1, q_wpLs_eq_2, q_wpL_eq_1, q_exL_eq_1, q_exL_eq_11, q_look_eq_1, q_look_eq_2, q_insT_eq_1, q_awl_eq_1, q_awl_eq_2, q_awl_eq_5, q_awl_eq_6, q_AE_thenL_eq_1, q_AE_inBlockL_eq_1, q_putK_eq_1, q_vBin_eq_1, q_resV_eq_1, q_binV_eq_1, q_binInt_eq_3, q_cutInt_eq_1, true_and, if_true, Nat.reduceBEq, q_learn_eq_1, q_condK_eq_1, q_condB_eq_2, lookT_here, lookT_next, uf36r4, uf36b5, uf36r6, uf36b7]
        exact Next.intro (i + 1) rfl (by rw [hu]; rfl) (by omega) (by omega)
      · rw [if_pos h] at hu
        simp only [h, c4, q_wpLs_eq_1, q_wpLs_eq_2, q_wpL_eq_1, q_exL_eq_1, q_exL_eq_7, q_exL_eq_11, q_exL_eq_33, q_look_eq_1, q_look_eq_2, q_insT_eq_1, q_insO_eq_1, q_awl_eq_2, q_awl_eq_5, q_awl_eq_6, q_AE_thenL_eq_1, q_AE_inBlockL_eq_1, q_putK_eq_1, q_vBin_eq_1, q_resV_eq_1, q_binV_eq_1, q_binInt_eq_3, q_cutInt_eq_1, q_nlApp_eq_2, q_vRow_eq_1, q_vLits_eq_1, q_vLits_eq_2, q_bsK_eq_1, q_srcO_eq_1, q_srcV_eq_2, q_appK_eq_1, q_appendK_eq_1, q_mapT_eq_1, q_mapT_eq_2, q_mapO_eq_1, q_mapO_eq_2, q_delO_eq_1, q_delO_eq_2, q_freeB_eq_1, q_freeT_eq_1, q_freeT_eq_2, q_freeO_eq_1, q_freeO_eq_2, q_V_noRef_eq_1, q_V_noRef_eq_2, q_K_noRef_eq_1, q_K_noRef_eq_2, q_K_noRef_eq_3, q_O_noRef_eq_1, q_O_noRef_eq_2, q_V_scrub_eq_1, q_V_scrub_eq_3, q_K_scrub_eq_1, q_K_scrub_eq_2, q_K_scrub_eq_5, q_O_scrub_eq_1, q_O_scrub_eq_2, q_List_map_cons, q_List_map_nil, q_List_foldl_cons, q_List_foldl_nil, q_List_replicate_succ, q_List_replicate_zero, q_List_set_cons_zero, q_List_length_cons, q_List_length_nil, true_and, if_true, if_false, forall_eq, or_false, and_self, bne_iff_ne, ne_eq, Bool.and_eq_true, Bool.and_true, Bool.true_and, Bool.or_true, Bool.false_or, List.mem_cons, Nat.reduceEqDiff, Nat.reduceLeDiff, Nat.reduceLT, Nat.reduceBEq, Nat.zero_add, q_learn_eq_1, not_false_eq_true, q_condK_eq_1, q_condB_eq_1, ints_len, lookT_here, lookT_next, lookO_here, lookO_next, List.not_mem_nil, r_all_noRef, r_map_scrub, uf36r4, uf36b5, uf36r6, uf36b7]
        refine ⟨by omega, by omega, Next.intro (i + 1) rfl (by rw [hu, ints_snoc]; rfl) (by omega) (by omega)⟩
    · have c1 : ¬ (i : Int) < 20 := by omega
      obtain rfl : i = 20 := by omega
      simp only [c1, q_wpLs_eq_1, q_wpLs_eq_2, q_wpL_eq_1, q_putDL_eq_1, q_AOp_dst_eq_1, q_AOp_dst_eq_10, q_exL_eq_1, q_exL_eq_3, q_exL_eq_11, q_look_eq_1, q_look_eq_2, q_insT_eq_1, q_awl_eq_2, q_awl_eq_5, q_awl_eq_6, q_awl_eq_9, q_awl_eq_10, q_AE_thenL_eq_1, q_AE_thenL_eq_2, q_AE_inBlockL_eq_2, q_putK_eq_1, q_vBin_eq_1, q_resV_eq_1, q_binV_eq_1, q_binInt_eq_3, q_cutInt_eq_8, q_vPick_eq_3, q_isArrO_eq_1, q_mapT_eq_1, q_mapT_eq_2, q_mapO_eq_1, q_mapO_eq_2, q_endK_eq_2, q_endL_eq_1, q_endV_eq_1, q_resL_eq_1, q_resL_eq_2, q_resX_eq_1, q_one_eq_1, q_V_nrm_eq_1, q_V_nrm_eq_5, q_K_nrm_eq_1, q_K_nrm_eq_3, q_O_nrm_eq_1, q_O_nrm_eq_2, q_V_owns_eq_1, q_K_owns_eq_1, q_V_toNew_eq_1, q_K_toNew_eq_2, q_C_norm_eq_4, q_C_norm_eq_5, q_Bool_not_true, true_and, if_true, and_self, ne_eq, List.nodup_nil, List.nodup_cons, Nat.reduceBEq, q_learn_eq_1, not_false_eq_true, q_guardP_eq_1, q_condK_eq_1, q_condB_eq_2, decide_false, normRows_ints, encT_norm, lookT_here, lookT_next, Int.reduceLT, Int.cast_ofNat_Int, lookO_here, lookO_next, List.not_mem_nil, r_map_nrm, uf36r1, uf36b2, uf36b12, uf36r13, uf36b14, uf36b15]
      rw [varsT, if_neg (by simp [he])] at hS
      exact hS
  · obtain rfl := h0 he
    simp only [he, q_wpLs_eq_1, q_wpLs_eq_2, q_wpL_eq_1, q_AOp_dst_eq_1, q_AOp_dst_eq_10, q_exL_eq_1, q_exL_eq_3, q_exL_eq_8, q_exL_eq_11, q_exL_eq_28, q_look_eq_1, q_look_eq_2, q_insT_eq_1, q_awl_eq_1, q_awl_eq_2, q_awl_eq_5, q_awl_eq_6, q_awl_eq_7, q_awl_eq_9, q_awl_eq_10, q_AE_thenL_eq_1, q_AE_thenL_eq_2, q_AE_inBlockL_eq_2, q_putK_eq_1, q_vBin_eq_1, q_resV_eq_1, q_binV_eq_1, q_binInt_eq_3, q_cutInt_eq_6, q_cutInt_eq_8, q_loadO_eq_1, q_isV_eq_1, q_vLoad_eq_1, q_vPick_eq_1, q_isArrO_eq_1, q_mapT_eq_1, q_mapT_eq_2, q_mapO_eq_1, q_mapO_eq_2, q_endK_eq_2, q_endL_eq_1, q_endV_eq_1, q_resL_eq_1, q_resL_eq_2, q_resX_eq_1, q_one_eq_1, q_V_nrm_eq_1, q_K_nrm_eq_1, q_K_nrm_eq_3, q_O_nrm_eq_1, q_O_nrm_eq_2, q_V_owns_eq_1, q_K_owns_eq_1, q_V_toNew_eq_1, q_K_toNew_eq_2, q_C_norm_eq_4, q_C_norm_eq_5, q_Bool_not_true, q_List_map_cons, q_List_map_nil, q_List_drop_zero, true_and, if_true, false_implies, forall_const, and_self, ne_eq, List.nodup_nil, List.nodup_cons, Nat.reduceBEq, Nat.zero_add, Nat.le_refl, q_learn_eq_1, not_false_eq_true, q_guardP_eq_1, q_condK_eq_1, q_condB_eq_1, q_exK_eq_1, condB_beq, decide_true, normRows_ints, encT_norm, List.length_map, r_ofRow_take, encT_len, lookT_here, lookT_next, Int.reduceLT, Int.cast_ofNat_Int, lookO_here, lookO_next, List.not_mem_nil, r_map_nrm, uf36r1, uf36b2, uf36r3, uf36r8, uf36b9, uf36b10, uf36b11, uf36b12, uf36r13, uf36b14, uf36b15]
    rw [varsT, if_pos he] at hS
    exact hS
/-- a list that began as nil -/
def nlI (l : List Int) : Option Bool := if l.isEmpty = true then some true else some false
theorem nlI_nil : nlI [] = some true := rfl
theorem nlI_snoc (l : List Int) (x : Int) : nlI (l ++ [x]) = some false := by simp [nlI]
theorem nlI_app (l : List Int) (r : List C) (rs : List (List C)) : nlApp (nlI l) (r :: rs) = some false := rfl
theorem s23 (o : Order) : Spec Try.prog 23 [.agg (encOrder o)] (fun r => r = .k (.newl 3 1 none (ints (gapsO o)))) := by
  refine Spec.of_awlS hf23 okf23 (by simp) fun S hS => ?_
  simp only [q_wpLs_eq_1, q_wpLs_eq_2, q_wpL_eq_1, q_exL_eq_1, q_exL_eq_2, q_exL_eq_5, q_look_eq_1, q_look_eq_2, q_insT_eq_1, q_insO_eq_1, q_awl_eq_2, q_awl_eq_5, q_awl_eq_7, q_AE_thenL_eq_1, q_initT_eq_1, q_initT_eq_2, q_boxK_eq_1, q_freeB_eq_1, q_freeT_eq_1, q_freeT_eq_2, q_freeO_eq_1, q_freeO_eq_2, q_V_noRef_eq_1, q_V_noRef_eq_2, q_K_noRef_eq_2, q_K_noRef_eq_3, q_O_noRef_eq_1, q_O_noRef_eq_2, true_and, and_self, bne_iff_ne, ne_eq, Bool.and_eq_true, Bool.and_true, Bool.or_true, Bool.false_or, Nat.reduceEqDiff, Nat.reduceBEq, Nat.zero_add, not_false_eq_true, lookT_here, r_all_noRef, uf23, uf23b17, uf23r18, uf23b19, uf23b20, uf23r21, uf23b22, uf23r23, uf23b24]
  rw [uf23l16]
  refine awl_loop (fun i : Nat => [(1, .k (.ptr 1 0)), (3, .k (.own 3)), (5, .int .i64 i)])
    (fun i => [(1, .var 25 ((encOrder o).map .c)), (3, .arr 3 1 (nlI ((upto i).filter fun q => !(hasR o.rules q))) (ints ((upto i).filter fun q => !(hasR o.rules q))))]) (fun i => i ≤ 22) (fun i => 22 - i) 0 rfl rfl (Nat.zero_le _) ?_
  intro i hi
  by_cases hlt : i < 22
  · have c1 : (i : Int) < 22 := by omega
    have c4 : IntKind.i64.wrap ((i : Int) + 1) = (i : Int) + 1 := wrap_in (by omega) (by omega)
    simp only [c1, c4, q_wpLs_eq_1, q_wpLs_eq_2, q_wpL_eq_1, q_exL_eq_1, q_exL_eq_4, q_exL_eq_8, q_exL_eq_9, q_exL_eq_11, q_exL_eq_17, q_exL_eq_21, q_exL_eq_28, q_look_eq_1, q_look_eq_2, q_insT_eq_1, q_insO_eq_1, q_awl_eq_1, q_awl_eq_2, q_awl_eq_5, q_awl_eq_6, q_awl_eq_7, q_AE_thenL_eq_1, q_putK_eq_1, q_vBin_eq_1, q_resV_eq_1, q_binV_eq_1, q_binInt_eq_3, q_cutInt_eq_8, q_vFaddr_eq_1, q_loadO_eq_1, q_isV_eq_1, q_vLoad_eq_1, q_V_cells_eq_1, q_splice_eq_1, q_isVarO_eq_1, q_stVarK_eq_1, q_storeK_eq_1, q_freeB_eq_1, q_freeT_eq_1, q_freeT_eq_2, q_freeO_eq_1, q_freeO_eq_2, q_V_noRef_eq_1, q_K_noRef_eq_1, q_K_noRef_eq_2, q_K_noRef_eq_3, q_O_noRef_eq_1, q_O_noRef_eq_2, q_List_map_cons, q_List_map_nil, q_List_take_zero, q_List_drop_succ_cons, q_List_drop_zero, q_List_nil_append, q_List_length_cons, q_List_length_nil, true_and, if_true, and_self, bne_iff_ne, ne_eq, Bool.and_eq_true, Bool.and_true, Bool.true_and, Bool.or_true, Bool.false_or, List.append_nil, Nat.reduceAdd, Nat.reduceEqDiff, Nat.reduceBEq, Nat.zero_add, Nat.le_refl, q_learn_eq_1, not_false_eq_true, q_condK_eq_1, q_condB_eq_1, decide_true, List.length_map, encOrder_len, lookT_here, lookT_next, lookO_here, lookO_next, f_or3, r_all_noRef, z_capP, z_caps_nil, z_caps_ptr, z_fnV, z_fnP2, z_pureCaps_tok, uf23r3, uf23r6, uf23b7, uf23r8, uf23b9, uf23b10, uf23b11, uf23b12, uf23b13, uf23r14, uf23b15]
    refine call_f 4 (by simp [look, lookT]) (by simp [V.hard, V.toks, Abs.K.toks, Cap.toks]) (by simp [lookO, plainO, Abs.K.toks]) ?_
    simp only [q_look_eq_1, q_pureRow_eq_1, q_pureRow_eq_2, q_mapT_eq_1, q_mapT_eq_2, q_mapO_eq_1, q_mapO_eq_2, q_delO_eq_1, q_delO_eq_2, q_Option_map_some, q_List_map_cons, q_List_map_nil, if_true, if_false, or_false, Nat.reduceEqDiff, Nat.reduceBEq, lookT_here, lookT_next, lookO_here, q_roK_1, q_fnkF_1, q_capR_1, z_V_k, z_K_c, z_K_own, z_K_ptr, z_K_fnk, z_Cap_tok, z_O_var, z_O_arr, z_frzT, z_frzO, z_pureCaps_nil, z_pureCaps_ro, r_map_frz]
    refine of_orF (call_s (s46 o.rules i) ?_ (ha := by simp [lendL, V.norm, capI, lst]))
    have hu := upto_filter (fun q => !(hasR o.rules q)) i
    have hle := filter_le (fun q => !(hasR o.rules q)) i
    cases h : hasR o.rules i
    · rw [if_pos (by rw [h]; rfl)] at hu
      simp only [h, c4, nlI_app, q_wpLs_eq_1, q_wpLs_eq_2, q_wpL_eq_1, q_exL_eq_1, q_exL_eq_7, q_exL_eq_8, q_exL_eq_11, q_exL_eq_15, q_exL_eq_33, q_look_eq_1, q_look_eq_2, q_insT_eq_1, q_insO_eq_1, q_awl_eq_2, q_awl_eq_6, q_AE_thenL_eq_1, q_AE_inBlockL_eq_1, q_putK_eq_1, q_vBin_eq_1, q_resV_eq_1, q_binV_eq_1, q_binInt_eq_3, q_cutInt_eq_1, q_vUn_eq_1, q_unV_eq_2, q_mapC_eq_1, q_vLoad_eq_4, q_ofRow_eq_1, q_pureRow_eq_1, q_pureRow_eq_2, q_nlApp_eq_2, q_vRow_eq_1, q_vLits_eq_1, q_vLits_eq_2, q_bsK_eq_1, q_srcO_eq_1, q_srcV_eq_2, q_appK_eq_1, q_appendK_eq_1, q_mapT_eq_1, q_mapT_eq_2, q_mapO_eq_1, q_mapO_eq_2, q_delO_eq_1, q_delO_eq_2, q_freeB_eq_1, q_freeT_eq_1, q_freeT_eq_2, q_freeO_eq_1, q_freeO_eq_2, q_V_noRef_eq_1, q_K_noRef_eq_1, q_K_noRef_eq_2, q_K_noRef_eq_3, q_O_noRef_eq_1, q_O_noRef_eq_2, q_V_scrub_eq_1, q_K_scrub_eq_1, q_K_scrub_eq_2, q_K_scrub_eq_5, q_O_scrub_eq_1, q_O_scrub_eq_2, q_Bool_not_false, q_Option_map_some, q_List_map_cons, q_List_map_nil, q_List_take_succ_cons, q_List_take_zero, q_List_drop_zero, q_List_foldl_cons, q_List_foldl_nil, q_List_replicate_succ, q_List_replicate_zero, q_List_set_cons_zero, q_List_length_cons, q_List_length_nil, true_and, if_true, if_false, Bool.false_eq_true, forall_eq, or_false, and_self, bne_iff_ne, ne_eq, Bool.and_eq_true, Bool.and_true, Bool.true_and, Bool.or_true, Bool.false_or, List.mem_cons, Nat.reduceEqDiff, Nat.reduceLeDiff, Nat.reduceLT, Nat.reduceBEq, Nat.zero_add, Nat.le_refl, q_learn_eq_1, not_false_eq_true, q_condK_eq_1, q_condB_eq_1, ints_len, lookT_here, lookT_next, lookO_here, lookO_next, List.not_mem_nil, r_all_noRef, r_map_scrub, uf23r4, uf23b5]
      refine ⟨by omega, by omega, Next.intro (i + 1) rfl ?_ (by omega) (by omega)⟩
      rw [hu, ints_snoc, nlI_snoc]; rfl
    · rw [if_neg (by rw [h]; simp)] at hu
      simp only [h, c4, q_wpLs_eq_1, q_wpLs_eq_2, q_wpL_eq_1, q_exL_eq_1, q_exL_eq_11, q_exL_eq_15, q_look_eq_1, q_look_eq_2, q_insT_eq_1, q_awl_eq_1, q_awl_eq_2, q_awl_eq_6, q_AE_thenL_eq_1, q_AE_inBlockL_eq_1, q_putK_eq_1, q_vBin_eq_1, q_resV_eq_1, q_binV_eq_1, q_binInt_eq_3, q_cutInt_eq_1, q_vUn_eq_1, q_unV_eq_2, q_mapC_eq_1, q_Bool_not_true, true_and, if_true, Nat.reduceBEq, q_learn_eq_1, q_condK_eq_1, q_condB_eq_2, lookT_here, lookT_next, uf23r4, uf23b5]
      refine Next.intro (i + 1) rfl ?_ (by omega) (by omega)
      rw [hu]; rfl
  · have c1 : ¬ (i : Int) < 22 := by omega
    obtain rfl : i = 22 := by omega
    simp only [c1, q_wpLs_eq_1, q_wpLs_eq_2, q_wpL_eq_1, q_exL_eq_1, q_exL_eq_11, q_look_eq_1, q_look_eq_2, q_insT_eq_1, q_awl_eq_2, q_awl_eq_5, q_awl_eq_6, q_awl_eq_9, q_awl_eq_10, q_AE_thenL_eq_1, q_AE_thenL_eq_2, q_AE_inBlockL_eq_2, q_putK_eq_1, q_vBin_eq_1, q_resV_eq_1, q_binV_eq_1, q_binInt_eq_3, q_cutInt_eq_8, q_isArrO_eq_1, q_mapT_eq_1, q_mapT_eq_2, q_mapO_eq_1, q_mapO_eq_2, q_endK_eq_2, q_endL_eq_1, q_endV_eq_1, q_resL_eq_1, q_resL_eq_2, q_resX_eq_1, q_one_eq_1, q_V_nrm_eq_1, q_K_nrm_eq_1, q_K_nrm_eq_3, q_O_nrm_eq_1, q_O_nrm_eq_2, q_V_owns_eq_1, q_K_owns_eq_1, q_V_toNew_eq_1, q_K_toNew_eq_2, q_C_norm_eq_4, q_C_norm_eq_5, true_and, if_true, and_self, List.nodup_nil, List.nodup_cons, Nat.reduceBEq, q_learn_eq_1, not_false_eq_true, q_condK_eq_1, q_condB_eq_2, decide_false, normRows_ints, encOrder_norm, lookT_here, lookT_next, Int.reduceLT, Int.cast_ofNat_Int, lookO_here, lookO_next, List.not_mem_nil, r_map_nrm, uf23r1, uf23b2, uf23b12, uf23b13, uf23r14, uf23b15]
    exact hS
end Go.Abs

set_option maxRecDepth 100000
namespace Go.Proofs
open Go.Shelf
def Try.laysSort_ren : Go.Shelf.Ren :=
  {
    f := fun x =>
      match x with
      | 189 => 49
      | 125 => 69
      | 257 => 68
      | 128 => 91
      | 129 => 92
      | 294 => 82
      | 295 => 83
      | 296 => 84
      | 297 => 85
      | 298 => 86
      | 299 => 87
      | 216 => 88
      | 300 => 89
      | 301 => 90
      | 328 => 100
      | 329 => 101
      | 330 => 102
      | 331 => 103
      | 332 => 104
      | 215 => 105
      | 343 => 107
      | n => n,
    t := fun x =>
      match x with
      | 28 => 36
      | 3 => 3
      | 46 => 89
      | 0 => 0
      | 51 => 110
      | 53 => 112
      | 4 => 4
      | 183 => 104
      | 182 => 103
      | 131 => 28
      | 5 => 5
      | 9 => 9
      | 218 => 117
      | 222 => 121
      | 228 => 123
      | 229 => 124
      | n => n,
    g := fun n => n }
theorem Try.laysSort : Lays.n189 Try.prog Try.laysSort_ren :=
  { mixed := Eq.refl true, f125 := Eq.trans Try.func69 (congrArg some (Eq.refl (Body.n125 Try.laysSort_ren))),
    f128 := Eq.trans Try.func91 (congrArg some (Eq.refl (Body.n128 Try.laysSort_ren))),
    f129 := Eq.trans Try.func92 (congrArg some (Eq.refl (Body.n129 Try.laysSort_ren))),
    f189 := Eq.trans Try.func49 (congrArg some (Eq.refl (Body.n189 Try.laysSort_ren))),
    f215 := Eq.trans Try.func105 (congrArg some (Eq.refl (Body.n215 Try.laysSort_ren))),
    f216 := Eq.trans Try.func88 (congrArg some (Eq.refl (Body.n216 Try.laysSort_ren))),
    f257 := Eq.trans Try.func68 (congrArg some (Eq.refl (Body.n257 Try.laysSort_ren))),
    f294 := Eq.trans Try.func82 (congrArg some (Eq.refl (Body.n294 Try.laysSort_ren))),
    f295 := Eq.trans Try.func83 (congrArg some (Eq.refl (Body.n295 Try.laysSort_ren))),
    f296 := Eq.trans Try.func84 (congrArg some (Eq.refl (Body.n296 Try.laysSort_ren))),
    f297 := Eq.trans Try.func85 (congrArg some (Eq.refl (Body.n297 Try.laysSort_ren))),
    f298 := Eq.trans Try.func86 (congrArg some (Eq.refl (Body.n298 Try.laysSort_ren))),
    f299 := Eq.trans Try.func87 (congrArg some (Eq.refl (Body.n299 Try.laysSort_ren))),
    f300 := Eq.trans Try.func89 (congrArg some (Eq.refl (Body.n300 Try.laysSort_ren))),
    f301 := Eq.trans Try.func90 (congrArg some (Eq.refl (Body.n301 Try.laysSort_ren))),
    f328 := Eq.trans Try.func100 (congrArg some (Eq.refl (Body.n328 Try.laysSort_ren))),
    f329 := Eq.trans Try.func101 (congrArg some (Eq.refl (Body.n329 Try.laysSort_ren))),
    f330 := Eq.trans Try.func102 (congrArg some (Eq.refl (Body.n330 Try.laysSort_ren))),
    f331 := Eq.trans Try.func103 (congrArg some (Eq.refl (Body.n331 Try.laysSort_ren))),
    f332 := Eq.trans Try.func104 (congrArg some (Eq.refl (Body.n332 Try.laysSort_ren))),
    f343 := Eq.trans Try.func107 (congrArg some (Eq.refl (Body.n343 Try.laysSort_ren))), t0 := Try.underlying0,
    a0 := Try.isAgg0, z0 := Try.sizeOf0, v0 := Try.zeroValue0, t3 := Try.underlying3, a3 := Try.isAgg3, z3 := Try.sizeOf3,
    v3 := Try.zeroValue3, t4 := Try.underlying4, a4 := Try.isAgg4, z4 := Try.sizeOf4, v4 := Try.zeroValue4,
    t5 := Try.underlying5, a5 := Try.isAgg5, z5 := Try.sizeOf5, v5 := Try.zeroValue5, t9 := Try.underlying9,
    a9 := Try.isAgg9, z9 := Try.sizeOf9, v9 := Try.zeroValue9, t28 := Try.underlying36, a28 := Try.isAgg36,
    z28 := Try.sizeOf36, v28 := Try.zeroValue36, t46 := Try.underlying89, a46 := Try.isAgg89, z46 := Try.sizeOf89,
    v46 := Try.zeroValue89, t51 := Try.underlying110, a51 := Try.isAgg110, z51 := Try.sizeOf110, v51 := Try.zeroValue110,
    t53 := Try.underlying112, a53 := Try.isAgg112, z53 := Try.sizeOf112, v53 := Try.zeroValue112,
    t131 := Try.underlying28, a131 := Try.isAgg28, z131 := Try.sizeOf28, v131 := Try.zeroValue28,
    t182 := Try.underlying103, a182 := Try.isAgg103, z182 := Try.sizeOf103, v182 := Try.zeroValue103,
    t183 := Try.underlying104, a183 := Try.isAgg104, z183 := Try.sizeOf104, v183 := Try.zeroValue104,
    t218 := Try.underlying117, a218 := Try.isAgg117, z218 := Try.sizeOf117, v218 := Try.zeroValue117,
    t222 := Try.underlying121, a222 := Try.isAgg121, z222 := Try.sizeOf121, v222 := Try.zeroValue121,
    t228 := Try.underlying123, a228 := Try.isAgg123, z228 := Try.sizeOf123, v228 := Try.zeroValue123,
    t229 := Try.underlying124, a229 := Try.isAgg124, z229 := Try.sizeOf124, v229 := Try.zeroValue124 }
def Try.laysCompact_ren : Go.Shelf.Ren :=
  {
    f := fun x =>
      match x with
      | 20 => 50
      | n => n,
    t := fun x =>
      match x with
      | 22 => 36
      | 3 => 3
      | 4 => 4
      | 0 => 0
      | n => n,
    g := fun n => n }
theorem Try.laysCompact : Lays2.n20 Try.prog Try.laysCompact_ren :=
  { mixed := Eq.refl true, f20 := Eq.trans Try.func50 (congrArg some (Eq.refl (Body2.n20 Try.laysCompact_ren))),
    t0 := Try.underlying0, a0 := Try.isAgg0, z0 := Try.sizeOf0, v0 := Try.zeroValue0, t3 := Try.underlying3,
    a3 := Try.isAgg3, z3 := Try.sizeOf3, v3 := Try.zeroValue3, t4 := Try.underlying4, a4 := Try.isAgg4, z4 := Try.sizeOf4,
    v4 := Try.zeroValue4, t22 := Try.underlying36, a22 := Try.isAgg36, z22 := Try.sizeOf36, v22 := Try.zeroValue36,
    i3 := Eq.refl (some (some (Go.Value.int Go.IntKind.i64 0), 1, 8)) }
end Go.Proofs
set_option maxRecDepth 100000
namespace Go.Abs
open Go.Proofs
theorem callable_at {P : Program} {f : FuncId} (h : (match P.funcs[f]? with | some fn => fn.body.isSome && !(fn.name == "runtime.NumGoroutine") | none => false) = true) : Callable P f := by
  cases hf : P.funcs[f]? with
  | none => rw [hf] at h; cases h
  | some fn =>
    rw [hf] at h
    simp only [Bool.and_eq_true, Bool.not_eq_true'] at h
    exact ⟨fn, hf, h.1, h.2⟩
theorem s49 {e : TypeId} {τ : Nat} {l : List Int} (hl : l.length < 4611686018427387904) : SpecS Try.prog 49 [.k (.own τ)] (oneI e τ l) [τ] (fun r o' => r = .tup [] ∧ o' = oneI e τ (sortI l)) :=
  sort_spec Try.laysSort (callable_at (by kernel_rfl)) hl
theorem s50 {e : TypeId} {τ : Nat} {l : List Int} : SpecS Try.prog 50 [.k (.own τ)] (oneI e τ l) [] (fun r o' => r = .k (.own τ) ∧ o' = oneI e τ (Lib.compact l)) :=
  compact_spec Try.laysCompact (callable_at (by kernel_rfl))
end Go.Abs
