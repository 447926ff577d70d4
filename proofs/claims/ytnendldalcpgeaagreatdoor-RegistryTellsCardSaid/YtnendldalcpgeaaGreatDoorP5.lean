/- A part of the proof; the last text states what is proved. -/
import Derived.Test.YtnendldalcpgeaaGreatDoorP4
import Derived.Lib.AtoiAll
import Derived.Lib.ItoaNum
import Derived.Test.YtnendldalcpgeaaGreatDoorProg
import Derived.Shelf.Strconv.Itoa3
import Derived.Shelf.Strconv.AtoiAll
import Derived.Shelf.Strings.Cut
import Derived.Shelf.Strings.BuilderK
import Derived.Shelf.Strings.Builder2
import Derived.WalkKit
import Derived.BigCall
import Derived.OwnWalk
import Derived.Deep.QuietTactic
import Derived.BigQuiet
import Derived.Lib.IndexMore
import Derived.Shelf.Strings.Builder1
import Derived.Deep.LoopGhost
import Derived.Laws.CopyOwn
import Derived.Lib.ConvBytes
import Derived.Laws.BytesArg
import Derived.Laws.IdiomStrings
set_option linter.unusedVariables false
set_option linter.unusedSimpArgs false
set_option maxRecDepth 10000
namespace Go.Wire
open Go.Lib
abbrev Txt := List UInt8
theorem tH {d : Nat} (h : d < 10) : (UInt8.ofNat (48 + d)).toNat = 48 + d := by
 rw [UInt8.toNat_ofNat']; omega
theorem uB {u : Nat} (h : u < 10) : decDigits u = [UInt8.ofNat (48 + u)] := by rw [decDigits, dif_pos h]
theorem tJ {u : Nat} (h : ¬ u < 10) : decDigits u = decDigits (u / 10) ++ [UInt8.ofNat (48 + u % 10)] := by rw [decDigits, dif_neg h]
theorem nH (u : Nat) : ∀ c, c ∈ decDigits u → 48 ≤ c.toNat ∧ c.toNat ≤ 57 := by
 induction u using Nat.strongRecOn with
 | _ u ih =>
   intro c hc
   by_cases h : u < 10
   · rw [uB h, List.mem_singleton] at hc
     subst hc
     rw [tH h]; omega
   · rw [tJ h, List.mem_append, List.mem_singleton] at hc
     rcases hc with hc | rfl
     · exact ih (u / 10) (by omega) c hc
     · rw [tH (by omega)]; omega
theorem qZ (u : Nat) : decDigits u ≠ [] := by
 by_cases h : u < 10
 · rw [uB h]; simp
 · rw [tJ h]; simp
theorem nI : ∀ (k u : Nat), u < 10 ^ (k + 1) → (decDigits u).length ≤ k + 1
 | 0, u, h => by rw [uB (by simpa using h)]; simp
 | k + 1, u, h => by
   by_cases h10 : u < 10
   · rw [uB h10]; simp
   · rw [tJ h10, List.length_append]
     have := nI k (u / 10) (by rw [Nat.pow_succ] at h; omega)
     simp only [List.length_singleton]; omega
theorem zlW (u : Nat) (h : 0 < u) : ∃ c r, decDigits u = c :: r ∧ c.toNat ≠ 48 := by
 induction u using Nat.strongRecOn with
 | _ u ih =>
   by_cases h10 : u < 10
   · exact ⟨_, [], uB h10, by rw [tH h10]; omega⟩
   · obtain ⟨c, r, e, hc⟩ := ih (u / 10) (by omega) (by omega)
     exact ⟨c, r ++ _, by rw [tJ h10, e]; rfl, hc⟩
theorem zhb : ∀ (l1 l2 : Txt) (acc u : Nat), parseUint10 acc l1 = .ok u → parseUint10 acc (l1 ++ l2) = parseUint10 u l2
 | [], l2, acc, u, h => by
   simp only [parseUint10] at h
   injection h with h
   rw [h]; rfl
 | c :: r, l2, acc, u, h => by
   simp only [parseUint10] at h
   simp only [List.cons_append, parseUint10]
   split at h
   · rename_i h1
     rw [if_pos h1]
     split at h
     · cases h
     · rename_i h2
       rw [if_neg h2]
       split at h
       · cases h
       · rename_i h3
         rw [if_neg h3]
         exact zhb r l2 _ u h
   · cases h
theorem zhc {acc d : Nat} (hd : d < 10) (h : acc * 10 + d < 18446744073709551616) : parseUint10 acc [UInt8.ofNat (48 + d)] = .ok (acc * 10 + d) := by
 simp only [parseUint10, tH hd]
 rw [if_pos (by omega), if_neg (by omega), if_neg (by omega)]
 congr 1; omega
theorem zlX (u : Nat) (hu : u < 18446744073709551616) : parseUint10 0 (decDigits u) = .ok u := by
 induction u using Nat.strongRecOn with
 | _ u ih =>
   by_cases h : u < 10
   · rw [uB h, zhc h (by omega)]; congr 1; omega
   · rw [tJ h, zhb _ _ 0 (u / 10) (ih (u / 10) (by omega) (by omega)), zhc (by omega) (by omega)]
     congr 1; omega
def inI (n : Int) : Prop := -9223372036854775808 ≤ n ∧ n ≤ 9223372036854775807
theorem zhd (u : Nat) (hu : u < 18446744073709551616) : parseMag (decDigits u) = .ok u := by
 rw [parseMag, if_neg (qZ u), zlX u hu]
theorem zlY {n : Int} (h : inI n) : atoiAll (itoa n) = .ok n := by
 unfold itoa
 by_cases hn : n < 0
 · rw [if_pos hn]
   have h1 := zhd n.natAbs (by have := h.1; omega)
   have e45 : (45 : UInt8).toNat = 45 := rfl
   have h2 := h.1
   simp only [atoiAll, e45, true_or, or_true, if_true, h1]
   rw [if_neg (by simp), if_neg (by omega)]
   congr 1; omega
 · rw [if_neg hn]
   have h1 := zhd n.toNat (by have := h.2; omega)
   have hd := nH n.toNat
   have h2 := h.2
   cases hl : decDigits n.toNat with
   | nil => exact absurd hl (qZ _)
   | cons c r =>
     rw [hl] at h1 hd
     have hc := hd c (by simp)
     have e1 : ¬ c.toNat = 43 := by omega
     have e2 : ¬ c.toNat = 45 := by omega
     simp only [atoiAll, e1, e2, or_self, if_false, h1, not_false_eq_true, true_and, false_and]
     rw [if_neg (by omega)]
     congr 1; omega
theorem zhe {l : Txt} {n : Int} (h : atoiAll l = .ok n) : inI n := by
 unfold atoiAll at h
 split at h
 · cases h
 · simp only [] at h
   split at h
   · cases h
   · cases h
   · rename_i u _
     split at h
     · cases h
     · rename_i a1
       split at h
       · cases h
       · rename_i a2
         injection h with h
         subst h
         unfold inI
         split
         · rename_i a3
           simp only [a3, true_and] at a2
           omega
         · rename_i a3
           simp only [a3, not_false_eq_true, true_and] at a1
           omega
theorem zlZ (n : Int) : ∀ c, c ∈ itoa n → c ≠ 59 := by
 intro c hc
 have : c.toNat = 45 ∨ 48 ≤ c.toNat ∧ c.toNat ≤ 57 := by
   unfold itoa at hc
   split at hc
   · rcases List.mem_cons.1 hc with rfl | hc
     · exact .inl rfl
     · exact .inr (nH _ c hc)
   · exact .inr (nH _ c hc)
 intro e
 subst e
 have e59 : (59 : UInt8).toNat = 59 := rfl
 omega
theorem nJ {n : Int} (h : inI n) : 1 ≤ (itoa n).length ∧ (itoa n).length ≤ 20 := by
 obtain ⟨h1, h2⟩ := h
 unfold itoa
 split
 · have := nI 18 n.natAbs (by omega)
   simp only [List.length_cons]; omega
 · have := nI 18 n.toNat (by omega)
   have h3 := List.length_pos_iff.2 (qZ n.toNat)
   omega
def wI (n : Int) : Txt := itoa n ++ [59]
def rI (s : Txt) : Option (Int × Txt) :=
 if (59 : UInt8) ∈ s.take 21 then
   match atoiAll ((s.take 21).takeWhile fun c => decide (c ≠ 59)) with
   | .ok n => if itoa n = (s.take 21).takeWhile (fun c => decide (c ≠ 59)) then some (n, s.drop ((itoa n).length + 1)) else none
   | _ => none
 else none
theorem jI {t : Txt} (h : (59 : UInt8) ∈ t) : ∃ r, t = t.takeWhile (fun c => decide (c ≠ 59)) ++ 59 :: r := by
 induction t with
 | nil => cases h
 | cons c t ih =>
   by_cases hc : c = 59
   · subst hc; exact ⟨t, by simp⟩
   · obtain ⟨r, hr⟩ := ih ((List.mem_cons.1 h).resolve_left (fun e => hc e.symm))
     refine ⟨r, ?_⟩
     rw [List.takeWhile_cons_of_pos (by simpa using hc), List.cons_append, ← hr]
theorem zl0 {l r : Txt} (h : ∀ c, c ∈ l → c ≠ 59) : (l ++ 59 :: r).takeWhile (fun c => decide (c ≠ 59)) = l := by
 induction l with
 | nil => simp
 | cons c l ih =>
   rw [List.cons_append, List.takeWhile_cons_of_pos (by simpa using h c (by simp)), ih (fun x hx => h x (by simp [hx]))]
theorem zhf {n : Int} (h : inI n) (r : Txt) : rI (wI n ++ r) = some (n, r) := by
 have hl := nJ h
 have e : (wI n ++ r).take 21 = itoa n ++ 59 :: (r.take (20 - (itoa n).length)) := by
   rw [wI, List.append_assoc, List.singleton_append, List.take_append, List.take_of_length_le (by omega)]
   congr 1
   obtain ⟨k, hk⟩ : ∃ k, 21 - (itoa n).length = k + 1 := ⟨20 - (itoa n).length, by omega⟩
   rw [hk, List.take_succ_cons]
   congr 2; omega
 have hw : ((wI n ++ r).take 21).takeWhile (fun c => decide (c ≠ 59)) = itoa n := by rw [e]; exact zl0 (zlZ n)
 unfold rI
 rw [hw, if_pos (by rw [e]; simp), zlY h]
 simp only [if_true]
 congr 2
 rw [wI, List.append_assoc, List.drop_append]
 simp
theorem jJ {s r : Txt} {n : Int} (h : rI s = some (n, r)) : inI n ∧ s = wI n ++ r := by
 unfold rI at h
 split at h
 · rename_i hm
   split at h
   · rename_i m hat
     split at h
     · rename_i hit
       cases h
       refine ⟨zhe hat, ?_⟩
       obtain ⟨q, hq⟩ := jI hm
       rw [← hit] at hq
       have e : s = itoa n ++ 59 :: (q ++ s.drop 21) := by
         rw [← List.cons_append, ← List.append_assoc, ← hq, List.take_append_drop]
       conv => rhs; rw [e]
       rw [wI, List.append_assoc, List.drop_append]
       conv => lhs; rw [e]
       simp
     · cases h
   · cases h
 · cases h
theorem zl1 {s r : Txt} {n : Int} : rI s = some (n, r) ↔ inI n ∧ s = wI n ++ r :=
 ⟨jJ, fun h => by rw [h.2]; exact zhf h.1 r⟩
end Go.Wire
set_option maxRecDepth 10000
namespace Go.Wire
open Go.Lib
def uR {α : Type} (w : α → Txt) (R : Txt → Option (α × Txt)) (ok : α → Prop) : Prop := ∀ s x r, R s = some (x, r) ↔ ok x ∧ s = w x ++ r
section
variable {α : Type} {w : α → Txt} {R : Txt → Option (α × Txt)} {ok : α → Prop}
theorem uR.back (h : uR w R ok) {x : α} (hx : ok x) (r : Txt) : R (w x ++ r) = some (x, r) := (h _ _ _).2 ⟨hx, rfl⟩
theorem uR.uniq (h : uR w R ok) {x y : α} {r q : Txt} (hx : ok x) (hy : ok y) (e : w x ++ r = w y ++ q) : x = y ∧ r = q := by
 have h1 := h.back hx r
 rw [e, h.back hy q] at h1
 cases h1
 exact ⟨rfl, rfl⟩
theorem uR.inj (h : uR w R ok) {x y : α} (hx : ok x) (hy : ok y) (e : w x = w y) : x = y := (h.uniq (r := []) (q := []) hx hy (by rw [e])).1
theorem uR.cut (h : uR w R ok) {x : α} (hx : ok x) {k : Nat} (hk : k < (w x).length) : R ((w x).take k) = none := by
 cases hr : R ((w x).take k) with
 | none => rfl
 | some p =>
   obtain ⟨y, r⟩ := p
   obtain ⟨hy, e⟩ := (h _ _ _).1 hr
   have e2 : w x ++ [] = w y ++ (r ++ (w x).drop k) := by
     rw [List.append_nil, ← List.append_assoc, ← e, List.take_append_drop]
   have h2 := (h.uniq hx hy e2).2
   have h3 : ((w x).drop k).length = 0 := by
     have := congrArg List.length h2
     simp only [List.length_nil, List.length_append] at this
     omega
   rw [List.length_drop] at h3
   omega
end
def wS (s : Txt) : Txt := wI s.length ++ s
def rS (s : Txt) : Option (Txt × Txt) := (rI s).bind fun p => if p.1 < 0 ∨ p.1 > p.2.length then none else some (p.2.take p.1.toNat, p.2.drop p.1.toNat)
def okS (s : Txt) : Prop := s.length ≤ 9223372036854775807
theorem q8 : uR wS rS okS := by
 intro s x r
 constructor
 · intro h
   unfold rS at h
   cases hr : rI s with
   | none => rw [hr] at h; cases h
   | some p =>
     obtain ⟨n, q⟩ := p
     rw [hr] at h
     simp only [Option.bind_some] at h
     split at h
     · cases h
     · rename_i hc
       cases h
       obtain ⟨⟨h1, h2⟩, e⟩ := jJ hr
       have hl : (q.take n.toNat).length = n.toNat := by rw [List.length_take]; omega
       have hn : ((q.take n.toNat).length : Int) = n := by rw [hl]; omega
       refine ⟨by unfold okS; omega, ?_⟩
       rw [wS, hn, List.append_assoc, List.take_append_drop]
       exact e
 · rintro ⟨h1, rfl⟩
   unfold okS at h1
   unfold rS
   have e : wS x ++ r = wI x.length ++ (x ++ r) := by rw [wS, List.append_assoc]
   rw [e, zhf ⟨by omega, by omega⟩]
   simp only [Option.bind_some]
   rw [if_neg (by simp only [List.length_append]; omega)]
   simp
theorem zl2 {n : Int} (h : inI n) : 2 ≤ (wI n).length := by
 have := nJ h
 rw [wI, List.length_append, List.length_singleton]; omega
theorem nK {s : Txt} (h : okS s) : 2 ≤ (wS s).length := by
 unfold okS at h
 have := zl2 (n := s.length) ⟨by omega, by omega⟩
 rw [wS, List.length_append]; omega
def wN {α : Type} (w : α → Txt) (l : List α) : Txt := (l.map w).flatten
section
variable {α : Type} {w : α → Txt} {R : Txt → Option (α × Txt)} {ok : α → Prop}
def okL (ok : α → Prop) (l : List α) : Prop := l.length ≤ 9223372036854775807 ∧ ∀ x, x ∈ l → ok x
end
def putD : Nat → Nat → Txt → Txt
 | 0, _, out => out
 | k + 1, m, out => if m < 10 then UInt8.ofNat (48 + m) :: out else putD k (m / 10) (UInt8.ofNat (48 + m % 10) :: out)
def y2 : Int → Txt → Option (Int × Txt)
 | n, [] => some (n, [])
 | n, c :: t => if 48 ≤ c.toNat ∧ c.toNat ≤ 57 then
     (if n < -922337203685477580 ∨ n = -922337203685477580 ∧ (c.toNat : Int) - 48 > 8 then none else y2 (10 * n - ((c.toNat : Int) - 48)) t)
   else some (n, c :: t)
def dv (c : UInt8) : Nat := c.toNat - 48
def val (a : Nat) (l : Txt) : Nat := l.foldl (fun a c => a * 10 + dv c) a
theorem rR (a : Nat) : val a [] = a := by rw [val, List.foldl_nil]
theorem nL (a : Nat) (c : UInt8) (l : Txt) : val a (c :: l) = val (a * 10 + dv c) l := by rw [val, List.foldl_cons, val]
theorem zl3 (l : Txt) (a : Nat) (c : UInt8) : val a (l ++ [c]) = val a l * 10 + dv c := by
 rw [val, List.foldl_append, List.foldl_cons, List.foldl_nil, val]
theorem zhg : ∀ (l : Txt) (a : Nat), a ≤ val a l
 | [], a => by rw [rR]; exact Nat.le_refl _
 | c :: l, a => by
   have h := zhg l (a * 10 + dv c)
   rw [nL]
   omega
theorem zhh : ∀ (k : Nat) (l : Txt), l.length = k → l ≠ [] → (∀ c, c ∈ l → 48 ≤ c.toNat ∧ c.toNat ≤ 57) → (1 < l.length → ∀ c t, l = c :: t → c.toNat ≠ 48) → decDigits (val 0 l) = l
 | 0, l, hk, hne, _, _ => absurd (List.length_eq_zero_iff.1 hk) hne
 | k + 1, l, hk, hne, hd, hz => by
   obtain ⟨i, c, rfl⟩ : ∃ i c, l = i ++ [c] := ⟨l.dropLast, l.getLast hne, (List.dropLast_concat_getLast hne).symm⟩
   have hc := hd c (by simp)
   have hdv : dv c = c.toNat - 48 := rfl
   have hcc : UInt8.ofNat (48 + dv c) = c := by
     rw [show 48 + dv c = c.toNat by omega]; exact UInt8.ofNat_toNat
   rw [zl3]
   cases i with
   | nil =>
     rw [rR, uB (by omega)]
     rw [show 0 * 10 + dv c = dv c by omega, hcc]; rfl
   | cons x i =>
     have hx := hd x (by simp)
     have hx0 := hz (by simp) x (i ++ [c]) rfl
     have ih := zhh k (x :: i) (by simpa using hk) (by simp) (fun y hy => hd y (by rw [List.mem_append]; exact .inl hy)) (fun h y t e => by cases e; exact hx0)
     have hv : 1 ≤ val 0 (x :: i) := by
       have h := zhg i (0 * 10 + dv x)
       have hdx : dv x = x.toNat - 48 := rfl
       rw [nL]
       omega
     rw [tJ (by omega), show (val 0 (x :: i) * 10 + dv c) / 10 = val 0 (x :: i) by omega, ih,
       show (val 0 (x :: i) * 10 + dv c) % 10 = dv c by omega, hcc]
theorem zhi : ∀ (s : Txt) (n m : Int) (t : Txt) (a : Nat), n = -(a : Int) → a ≤ 9223372036854775808 → y2 n s = some (m, t) →
   ∃ ds, s = ds ++ t ∧ (∀ c, c ∈ ds → 48 ≤ c.toNat ∧ c.toNat ≤ 57) ∧ m = -(val a ds : Int) ∧ val a ds ≤ 9223372036854775808
 | [], n, m, t, a, ha, hb, h => by
   cases h
   exact ⟨[], rfl, (fun _ h => nomatch h), by rw [rR]; exact ha, by rw [rR]; exact hb⟩
 | c :: s, n, m, t, a, ha, hb, h => by
   rw [y2] at h
   split at h
   · rename_i hc
     split at h
     · cases h
     · rename_i hn
       have hdv : dv c = c.toNat - 48 := rfl
       obtain ⟨ds, h1, h2, h3, h4⟩ := zhi s _ m t (a * 10 + dv c) (by omega) (by omega) h
       refine ⟨c :: ds, by rw [h1]; rfl, fun x hx => ?_, by rw [nL]; exact h3, by rw [nL]; exact h4⟩
       rcases List.mem_cons.1 hx with rfl | hx
       · exact hc
       · exact h2 x hx
   · cases h
     exact ⟨[], rfl, (fun _ h => nomatch h), by rw [rR]; exact ha, by rw [rR]; exact hb⟩
theorem jK : ∀ (l1 l2 : Txt) (n m : Int), y2 n l1 = some (m, []) → y2 n (l1 ++ l2) = y2 m l2
 | [], l2, n, m, h => by cases h; rfl
 | c :: l1, l2, n, m, h => by
   rw [y2] at h
   rw [List.cons_append, y2]
   split at h
   · rename_i hc
     rw [if_pos hc]
     split at h
     · cases h
     · rename_i hn
       rw [if_neg hn]
       exact jK l1 l2 _ m h
   · cases h
theorem zl4 (u : Nat) (hu : u ≤ 9223372036854775808) : y2 0 (decDigits u) = some (-(u : Int), []) := by
 induction u using Nat.strongRecOn with
 | _ u ih =>
   by_cases h : u < 10
   · rw [uB h, y2, tH h, if_pos (by omega), if_neg (by omega), y2]
     congr 2; omega
   · rw [tJ h, jK _ _ 0 _ (ih (u / 10) (by omega) (by omega)), y2, tH (by omega), if_pos (by omega), if_neg (by omega), y2]
     congr 2; omega
def wT (neg : Bool) (b : Txt) : Option (Int × Txt) := (y2 0 b).bind fun p =>
 if p.2.length = b.length ∨ p.2 = [] ∨ p.2.head? ≠ some 59 ∨ b.length - p.2.length > 1 ∧ b.head? = some 48 then none
 else if neg = true ∧ p.1 = 0 then none
 else if neg = true then some (p.1, p.2.tail)
 else if p.1 = -9223372036854775808 then none
 else some (-p.1, p.2.tail)
def rT (s : Txt) : Option (Int × Txt) := if s.head? = some 45 then wT true s.tail else wT false s
theorem zhj {neg : Bool} {b r : Txt} {n : Int} (h : wT neg b = some (n, r)) :
   ∃ u : Nat, b = decDigits u ++ 59 :: r ∧ (if neg = true then n = -(u : Int) ∧ 0 < u ∧ u ≤ 9223372036854775808 else n = u ∧ u ≤ 9223372036854775807) := by
 unfold wT at h
 cases hr : y2 0 b with
 | none => rw [hr] at h; cases h
 | some p =>
   obtain ⟨m, t⟩ := p
   rw [hr] at h
   simp only [Option.bind_some] at h
   obtain ⟨ds, h1, h2, h3, h4⟩ := zhi b 0 m t 0 rfl (by omega) hr
   split at h
   · cases h
   · rename_i hc
     simp only [not_or, not_and] at hc
     obtain ⟨c1, c2, c3, c4⟩ := hc
     cases t with
     | nil => exact absurd rfl c2
     | cons c t =>
       have e59 : c = 59 := by simpa using c3
       subst e59
       have hne : ds ≠ [] := by
         rintro rfl
         rw [h1] at c1
         exact c1 rfl
       have hca := zhh ds.length ds rfl hne h2 (fun hl c t e => by
         have hb : b.head? = some c := by rw [h1, e]; rfl
         intro h48
         have hc48 : c = 48 := UInt8.toNat_inj.1 h48
         refine c4 ?_ (by rw [hb, hc48])
         rw [h1, List.length_append]; simp only [List.length_cons]; omega)
       refine ⟨val 0 ds, ?_⟩
       split at h
       · cases h
       · rename_i d1
         cases neg
         · simp only [Bool.false_eq_true, if_false] at h ⊢
           split at h
           · cases h
           · rename_i d2
             cases h
             exact ⟨by rw [hca]; exact h1, by omega, by omega⟩
         · simp only [if_true] at h ⊢
           simp only [true_and] at d1
           cases h
           exact ⟨by rw [hca]; exact h1, h3, by omega, h4⟩
theorem zhk (neg : Bool) (u : Nat) (r : Txt) (h : if neg = true then 0 < u ∧ u ≤ 9223372036854775808 else u ≤ 9223372036854775807) :
   wT neg (decDigits u ++ 59 :: r) = some (if neg = true then -(u : Int) else u, r) := by
 have hu : u ≤ 9223372036854775808 := by
   split at h <;> omega
 have e : y2 0 (decDigits u ++ 59 :: r) = some (-(u : Int), 59 :: r) := by
   rw [jK _ _ 0 _ (zl4 u hu), y2]
   exact if_neg (by decide)
 have hne := List.length_pos_iff.2 (qZ u)
 unfold wT
 rw [e]
 simp only [Option.bind_some]
 have hz : ¬ ((59 :: r : Txt).length = (decDigits u ++ 59 :: r).length ∨ (59 :: r : Txt) = [] ∨ (59 :: r : Txt).head? ≠ some 59 ∨ (decDigits u ++ 59 :: r).length - (59 :: r : Txt).length > 1 ∧ (decDigits u ++ 59 :: r).head? = some 48) := by
   rintro (h1 | h1 | h1 | ⟨h1, h2⟩)
   · rw [List.length_append] at h1; omega
   · cases h1
   · exact h1 rfl
   · rw [List.length_append] at h1
     by_cases h0 : 0 < u
     · obtain ⟨c, t, hd, hc⟩ := zlW u h0
       rw [hd] at h2
       simp only [List.cons_append, List.head?_cons, Option.some.injEq] at h2
       subst h2
       exact hc rfl
     · obtain rfl : u = 0 := by omega
       rw [uB (by omega)] at h1
       simp only [List.length_singleton] at h1
       omega
 rw [if_neg hz]
 cases neg
 · simp only [Bool.false_eq_true, false_and, if_false] at h ⊢
   rw [if_neg (by omega)]
   simp
 · simp only [if_true, true_and] at h ⊢
   rw [if_neg (by omega)]
   rfl
theorem zl5 (s : Txt) : rT s = rI s := by
 have hiff : ∀ n r, rT s = some (n, r) ↔ inI n ∧ s = wI n ++ r := by
   intro n r
   constructor
   · intro h
     unfold rT at h
     split at h
     · rename_i hs
       obtain ⟨u, h1, h2⟩ := zhj h
       simp only [if_true] at h2
       obtain ⟨rfl, h3, h4⟩ := h2
       refine ⟨⟨by omega, by omega⟩, ?_⟩
       rw [wI, itoa, if_pos (by omega), show (-(u : Int)).natAbs = u by omega]
       cases s with
       | nil => cases hs
       | cons c s =>
         simp only [List.head?_cons, Option.some.injEq] at hs
         subst hs
         simp only [List.tail_cons] at h1
         rw [h1]; simp
     · obtain ⟨u, h1, h2⟩ := zhj h
       simp only [Bool.false_eq_true, if_false] at h2
       obtain ⟨rfl, h3⟩ := h2
       refine ⟨⟨by omega, by omega⟩, ?_⟩
       rw [wI, itoa, if_neg (by omega), show ((u : Int)).toNat = u by omega, h1]; simp
   · rintro ⟨⟨h1, h2⟩, rfl⟩
     unfold rT wI itoa
     by_cases hn : n < 0
     · rw [if_pos hn]
       simp only [List.cons_append, List.head?_cons, if_true, List.tail_cons, List.append_assoc, List.nil_append]
       rw [zhk true n.natAbs r (by simp only [if_true]; omega)]
       simp only [if_true]
       congr 2; omega
     · rw [if_neg hn]
       obtain ⟨c, t, hd⟩ : ∃ c t, decDigits n.toNat = c :: t := by
         cases h : decDigits n.toNat with
         | nil => exact absurd h (qZ _)
         | cons c t => exact ⟨c, t, rfl⟩
       have hc := nH n.toNat c (by rw [hd]; simp)
       have h45 : ¬ (decDigits n.toNat ++ [59] ++ r).head? = some 45 := by
         rw [hd]
         simp only [List.cons_append, List.head?_cons, Option.some.injEq]
         rintro rfl
         have e : (45 : UInt8).toNat = 45 := rfl
         omega
       rw [if_neg h45, List.append_assoc, List.singleton_append, zhk false n.toNat r (by simp only [Bool.false_eq_true, if_false]; omega)]
       simp only [Bool.false_eq_true, if_false]
       congr 2; omega
 apply Option.ext
 rintro ⟨n, r⟩
 rw [hiff, zl1]
end Go.Wire
set_option maxRecDepth 100000
namespace Go.Proofs
open Go.Shelf Go.RowKit
def Tryz.laysCut_ren : Go.Shelf.Ren :=
 {
   f := fun x =>
     match x with
     | 145 => 121
     | 220 => 125
     | 219 => 129
     | 217 => 139
     | 225 => 140
     | 224 => 141
     | 267 => 142
     | 266 => 150
     | 314 => 151
     | n => n,
   t := fun x =>
     match x with
     | 9 => 9
     | 4 => 4
     | 59 => 59
     | 3 => 3
     | 5 => 5
     | 46 => 84
     | 146 => 116
     | 51 => 113
     | n => n,
   g := fun x =>
     match x with
     | 1 => 0
     | n => n }
theorem Tryz.laysCut : Lays.n145 Tryz.prog Tryz.laysCut_ren :=
 { mixed := by kernel_rfl, f145 := Eq.trans Tryz.func121 (congrArg some (Eq.refl (Body.n145 Tryz.laysCut_ren))),
   f217 := Eq.trans Tryz.func139 (congrArg some (Eq.refl (Body.n217 Tryz.laysCut_ren))),
   f219 := Eq.trans Tryz.func129 (congrArg some (Eq.refl (Body.n219 Tryz.laysCut_ren))),
   f220 := Eq.trans Tryz.func125 (congrArg some (Eq.refl (Body.n220 Tryz.laysCut_ren))),
   f224 := Eq.trans Tryz.func141 (congrArg some (Eq.refl (Body.n224 Tryz.laysCut_ren))),
   f225 := Eq.trans Tryz.func140 (congrArg some (Eq.refl (Body.n225 Tryz.laysCut_ren))),
   f266 := Eq.trans Tryz.func150 (congrArg some (Eq.refl (Body.n266 Tryz.laysCut_ren))),
   f267 := Eq.trans Tryz.func142 (congrArg some (Eq.refl (Body.n267 Tryz.laysCut_ren))),
   f314 := Eq.trans Tryz.func151 (congrArg some (Eq.refl (Body.n314 Tryz.laysCut_ren))), t3 := Tryz.underlying3,
   a3 := Tryz.isAgg3, z3 := Tryz.sizeOf3, v3 := Tryz.zeroValue3, t4 := Tryz.underlying4, a4 := Tryz.isAgg4,
   z4 := Tryz.sizeOf4, v4 := Tryz.zeroValue4, t5 := Tryz.underlying5, a5 := Tryz.isAgg5, z5 := Tryz.sizeOf5,
   v5 := Tryz.zeroValue5, t9 := Tryz.underlying9, a9 := Tryz.isAgg9, z9 := Tryz.sizeOf9, v9 := Tryz.zeroValue9,
   t46 := Tryz.underlying84, a46 := Tryz.isAgg84, z46 := Tryz.sizeOf84, v46 := Tryz.zeroValue84,
   t51 := Tryz.underlying113, a51 := Tryz.isAgg113, z51 := Tryz.sizeOf113, v51 := Tryz.zeroValue113,
   t59 := Tryz.underlying59, a59 := Tryz.isAgg59, z59 := Tryz.sizeOf59, v59 := Tryz.zeroValue59,
   t146 := Tryz.underlying116, a146 := Tryz.isAgg116, z146 := Tryz.sizeOf116, v146 := Tryz.zeroValue116,
   g1 := by kernel_rfl }
def Tryz.laysItoa_ren : Go.Shelf.Ren :=
 {
   f := fun x =>
     match x with
     | 171 => 112
     | 243 => 123
     | 246 => 128
     | 283 => 135
     | 284 => 136
     | 285 => 137
     | 286 => 138
     | 129 => 105
     | 317 => 146
     | 318 => 147
     | 319 => 148
     | 320 => 149
     | 337 => 154
     | 338 => 155
     | n => n,
   t := fun x =>
     match x with
     | 3 => 3
     | 9 => 9
     | 2 => 2
     | 4 => 4
     | 171 => 143
     | 0 => 0
     | 53 => 115
     | 37 => 90
     | 5 => 5
     | 173 => 145
     | 212 => 155
     | 51 => 113
     | 20 => 20
     | 213 => 156
     | 46 => 84
     | 232 => 163
     | 233 => 164
     | n => n,
   g := fun x =>
     match x with
     | 17 => 3
     | 18 => 4
     | 19 => 5
     | n => n }
theorem Tryz.laysItoa : LaysM.n171 Tryz.prog Tryz.laysItoa_ren :=
 { mixed := by kernel_rfl, f129 := Eq.trans Tryz.func105 (congrArg some (Eq.refl (Body.n129 Tryz.laysItoa_ren))),
   f171 := Eq.trans Tryz.func112 (congrArg some (Eq.refl (Body.n171 Tryz.laysItoa_ren))),
   f243 := Eq.trans Tryz.func123 (congrArg some (Eq.refl (Body.n243 Tryz.laysItoa_ren))),
   f246 := Eq.trans Tryz.func128 (congrArg some (Eq.refl (Body.n246 Tryz.laysItoa_ren))),
   f283 := Eq.trans Tryz.func135 (congrArg some (Eq.refl (Body.n283 Tryz.laysItoa_ren))),
   f284 := Eq.trans Tryz.func136 (congrArg some (Eq.refl (Body.n284 Tryz.laysItoa_ren))),
   f285 := Eq.trans Tryz.func137 (congrArg some (Eq.refl (Body.n285 Tryz.laysItoa_ren))),
   f286 := Eq.trans Tryz.func138 (congrArg some (Eq.refl (Body.n286 Tryz.laysItoa_ren))),
   f317 := Eq.trans Tryz.func146 (congrArg some (Eq.refl (Body.n317 Tryz.laysItoa_ren))),
   f318 := Eq.trans Tryz.func147 (congrArg some (Eq.refl (Body.n318 Tryz.laysItoa_ren))),
   f319 := Eq.trans Tryz.func148 (congrArg some (Eq.refl (Body.n319 Tryz.laysItoa_ren))),
   f320 := Eq.trans Tryz.func149 (congrArg some (Eq.refl (Body.n320 Tryz.laysItoa_ren))),
   f337 := Eq.trans Tryz.func154 (congrArg some (Eq.refl (Body.n337 Tryz.laysItoa_ren))),
   f338 := Eq.trans Tryz.func155 (congrArg some (Eq.refl (Body.n338 Tryz.laysItoa_ren))), t0 := Tryz.underlying0,
   a0 := Tryz.isAgg0, z0 := Tryz.sizeOf0, v0 := Tryz.zeroValue0, t2 := Tryz.underlying2, a2 := Tryz.isAgg2,
   z2 := Tryz.sizeOf2, v2 := Tryz.zeroValue2, t3 := Tryz.underlying3, a3 := Tryz.isAgg3, z3 := Tryz.sizeOf3,
   v3 := Tryz.zeroValue3, t4 := Tryz.underlying4, a4 := Tryz.isAgg4, z4 := Tryz.sizeOf4, v4 := Tryz.zeroValue4,
   t5 := Tryz.underlying5, a5 := Tryz.isAgg5, z5 := Tryz.sizeOf5, v5 := Tryz.zeroValue5, t9 := Tryz.underlying9,
   a9 := Tryz.isAgg9, z9 := Tryz.sizeOf9, v9 := Tryz.zeroValue9, t20 := Tryz.underlying20, a20 := Tryz.isAgg20,
   z20 := Tryz.sizeOf20, v20 := Tryz.zeroValue20, t37 := Tryz.underlying90, a37 := Tryz.isAgg90, z37 := Tryz.sizeOf90,
   v37 := Tryz.zeroValue90, t46 := Tryz.underlying84, a46 := Tryz.isAgg84, z46 := Tryz.sizeOf84, v46 := Tryz.zeroValue84,
   t51 := Tryz.underlying113, a51 := Tryz.isAgg113, z51 := Tryz.sizeOf113, v51 := Tryz.zeroValue113,
   t53 := Tryz.underlying115, a53 := Tryz.isAgg115, z53 := Tryz.sizeOf115, v53 := Tryz.zeroValue115,
   t171 := Tryz.underlying143, a171 := Tryz.isAgg143, z171 := Tryz.sizeOf143, v171 := Tryz.zeroValue143,
   t173 := Tryz.underlying145, a173 := Tryz.isAgg145, z173 := Tryz.sizeOf145, v173 := Tryz.zeroValue145,
   t212 := Tryz.underlying155, a212 := Tryz.isAgg155, z212 := Tryz.sizeOf155, v212 := Tryz.zeroValue155,
   t213 := Tryz.underlying156, a213 := Tryz.isAgg156, z213 := Tryz.sizeOf156, t232 := Tryz.underlying163,
   a232 := Tryz.isAgg163, z232 := Tryz.sizeOf163, v232 := Tryz.zeroValue163, t233 := Tryz.underlying164,
   a233 := Tryz.isAgg164, z233 := Tryz.sizeOf164, v233 := Tryz.zeroValue164,
   g17 := by kernel_rfl, g18 := by kernel_rfl,
   g19 := by kernel_rfl, i0 := by kernel_rfl,
   i2 := by kernel_rfl,
   i3 := by kernel_rfl, i4 := by kernel_rfl,
   i5 := by kernel_rfl,
   i9 := by kernel_rfl, i20 := by kernel_rfl,
   i37 := by kernel_rfl,
   i46 := by kernel_rfl,
   i51 := by kernel_rfl,
   i53 := by kernel_rfl,
   i171 :=
     Eq.refl
       (some
         (some
             (Value.agg
               #[Value.int IntKind.u8 0, Value.int IntKind.u8 0, Value.int IntKind.u8 0, Value.int IntKind.u8 0,
                 Value.int IntKind.u8 0, Value.int IntKind.u8 0, Value.int IntKind.u8 0, Value.int IntKind.u8 0,
                 Value.int IntKind.u8 0, Value.int IntKind.u8 0, Value.int IntKind.u8 0, Value.int IntKind.u8 0,
                 Value.int IntKind.u8 0, Value.int IntKind.u8 0, Value.int IntKind.u8 0, Value.int IntKind.u8 0,
                 Value.int IntKind.u8 0, Value.int IntKind.u8 0, Value.int IntKind.u8 0, Value.int IntKind.u8 0,
                 Value.int IntKind.u8 0, Value.int IntKind.u8 0, Value.int IntKind.u8 0, Value.int IntKind.u8 0]),
           24, 24)),
   i173 := by kernel_rfl,
   i212 :=
     Eq.refl
       (some
         (some
             (Value.agg
               #[Value.int IntKind.u64 0, Value.int IntKind.u64 0, Value.int IntKind.u64 0, Value.int IntKind.u64 0,
                 Value.int IntKind.u64 0, Value.int IntKind.u64 0, Value.int IntKind.u64 0, Value.int IntKind.u64 0,
                 Value.int IntKind.u64 0, Value.int IntKind.u64 0, Value.int IntKind.u64 0, Value.int IntKind.u64 0,
                 Value.int IntKind.u64 0, Value.int IntKind.u64 0, Value.int IntKind.u64 0, Value.int IntKind.u64 0,
                 Value.int IntKind.u64 0, Value.int IntKind.u64 0, Value.int IntKind.u64 0, Value.int IntKind.u64 0]),
           20, 160)),
   i232 :=
     Eq.refl
       (some
         (some
             (Value.agg
               #[Value.int IntKind.u8 0, Value.int IntKind.u8 0, Value.int IntKind.u8 0, Value.int IntKind.u8 0,
                 Value.int IntKind.u8 0, Value.int IntKind.u8 0, Value.int IntKind.u8 0, Value.int IntKind.u8 0,
                 Value.int IntKind.u8 0, Value.int IntKind.u8 0, Value.int IntKind.u8 0, Value.int IntKind.u8 0,
                 Value.int IntKind.u8 0, Value.int IntKind.u8 0, Value.int IntKind.u8 0, Value.int IntKind.u8 0,
                 Value.int IntKind.u8 0, Value.int IntKind.u8 0, Value.int IntKind.u8 0, Value.int IntKind.u8 0,
                 Value.int IntKind.u8 0, Value.int IntKind.u8 0, Value.int IntKind.u8 0, Value.int IntKind.u8 0,
                 Value.int IntKind.u8 0, Value.int IntKind.u8 0, Value.int IntKind.u8 0, Value.int IntKind.u8 0,
                 Value.int IntKind.u8 0, Value.int IntKind.u8 0, Value.int IntKind.u8 0, Value.int IntKind.u8 0]),
           32, 32)),
   i233 :=
     Eq.refl
       (some
         (some
             (Value.agg
               (let y :=
                   let y :=
                     let y :=
                       let y :=
                         [Value.int IntKind.u8 0, Value.int IntKind.u8 0, Value.int IntKind.u8 0,
                           Value.int IntKind.u8 0];
                       Value.int IntKind.u8 0 ::
                         Value.int IntKind.u8 0 :: Value.int IntKind.u8 0 :: Value.int IntKind.u8 0 :: y;
                     let y :=
                       Value.int IntKind.u8 0 ::
                         Value.int IntKind.u8 0 :: Value.int IntKind.u8 0 :: Value.int IntKind.u8 0 :: y;
                     Value.int IntKind.u8 0 ::
                       Value.int IntKind.u8 0 :: Value.int IntKind.u8 0 :: Value.int IntKind.u8 0 :: y;
                   let y :=
                     let y :=
                       Value.int IntKind.u8 0 ::
                         Value.int IntKind.u8 0 :: Value.int IntKind.u8 0 :: Value.int IntKind.u8 0 :: y;
                     Value.int IntKind.u8 0 ::
                       Value.int IntKind.u8 0 :: Value.int IntKind.u8 0 :: Value.int IntKind.u8 0 :: y;
                   let y :=
                     Value.int IntKind.u8 0 ::
                       Value.int IntKind.u8 0 :: Value.int IntKind.u8 0 :: Value.int IntKind.u8 0 :: y;
                   Value.int IntKind.u8 0 ::
                     Value.int IntKind.u8 0 :: Value.int IntKind.u8 0 :: Value.int IntKind.u8 0 :: y;
                 let y :=
                   let y :=
                     let y :=
                       Value.int IntKind.u8 0 ::
                         Value.int IntKind.u8 0 :: Value.int IntKind.u8 0 :: Value.int IntKind.u8 0 :: y;
                     Value.int IntKind.u8 0 ::
                       Value.int IntKind.u8 0 :: Value.int IntKind.u8 0 :: Value.int IntKind.u8 0 :: y;
                   let y :=
                     Value.int IntKind.u8 0 ::
                       Value.int IntKind.u8 0 :: Value.int IntKind.u8 0 :: Value.int IntKind.u8 0 :: y;
                   Value.int IntKind.u8 0 ::
                     Value.int IntKind.u8 0 :: Value.int IntKind.u8 0 :: Value.int IntKind.u8 0 :: y;
                 let y :=
                   let y :=
                     Value.int IntKind.u8 0 ::
                       Value.int IntKind.u8 0 :: Value.int IntKind.u8 0 :: Value.int IntKind.u8 0 :: y;
                   Value.int IntKind.u8 0 ::
                     Value.int IntKind.u8 0 :: Value.int IntKind.u8 0 :: Value.int IntKind.u8 0 :: y;
                 let y :=
                   Value.int IntKind.u8 0 ::
                     Value.int IntKind.u8 0 :: Value.int IntKind.u8 0 :: Value.int IntKind.u8 0 :: y;
                 Value.int IntKind.u8 0 ::
                   Value.int IntKind.u8 0 :: Value.int IntKind.u8 0 :: Value.int IntKind.u8 0 :: y).toArray),
           64, 64)),
   m17 := by kernel_rfl, m18 := by kernel_rfl,
   m19 := by kernel_rfl }
def Tryz.laysAtoi_ren : Go.Shelf.Ren :=
 {
   f := fun x =>
     match x with
     | 172 => 122
     | 244 => 126
     | 245 => 127
     | 247 => 130
     | 279 => 131
     | 280 => 132
     | 281 => 133
     | 282 => 134
     | 287 => 143
     | 316 => 144
     | 171 => 112
     | 205 => 145
     | 321 => 152
     | 322 => 153
     | 243 => 123
     | 246 => 128
     | 283 => 135
     | 284 => 136
     | 285 => 137
     | 286 => 138
     | 129 => 105
     | 317 => 146
     | 318 => 147
     | 319 => 148
     | 320 => 149
     | 337 => 154
     | 338 => 155
     | n => n,
   t := fun x =>
     match x with
     | 9 => 9
     | 3 => 3
     | 75 => 95
     | 76 => 96
     | 4 => 4
     | 5 => 5
     | 167 => 137
     | 37 => 90
     | 0 => 0
     | 85 => 138
     | 2 => 2
     | 168 => 140
     | 53 => 115
     | 175 => 149
     | 46 => 84
     | 210 => 152
     | 127 => 120
     | 145 => 162
     | 143 => 160
     | 21 => 21
     | 171 => 143
     | 173 => 145
     | 212 => 155
     | 51 => 113
     | 20 => 20
     | 213 => 156
     | 232 => 163
     | 233 => 164
     | 80 => 99
     | n => n,
   g := fun x =>
     match x with
     | 15 => 1
     | 16 => 2
     | 17 => 3
     | 18 => 4
     | 19 => 5
     | n => n }
theorem Tryz.laysAtoi : LaysC.n172 Tryz.prog Tryz.laysAtoi_ren :=
 { mixed := by kernel_rfl, f129 := Eq.trans Tryz.func105 (congrArg some (Eq.refl (Body.n129 Tryz.laysAtoi_ren))),
   f171 := Eq.trans Tryz.func112 (congrArg some (Eq.refl (Body.n171 Tryz.laysAtoi_ren))),
   f172 := Eq.trans Tryz.func122 (congrArg some (Eq.refl (Body.n172 Tryz.laysAtoi_ren))),
   f205 := Eq.trans Tryz.func145 (congrArg some (Eq.refl (Body.n205 Tryz.laysAtoi_ren))),
   f243 := Eq.trans Tryz.func123 (congrArg some (Eq.refl (Body.n243 Tryz.laysAtoi_ren))),
   f244 := Eq.trans Tryz.func126 (congrArg some (Eq.refl (Body.n244 Tryz.laysAtoi_ren))),
   f245 := Eq.trans Tryz.func127 (congrArg some (Eq.refl (Body.n245 Tryz.laysAtoi_ren))),
   f246 := Eq.trans Tryz.func128 (congrArg some (Eq.refl (Body.n246 Tryz.laysAtoi_ren))),
   f247 := Eq.trans Tryz.func130 (congrArg some (Eq.refl (Body.n247 Tryz.laysAtoi_ren))),
   f279 := Eq.trans Tryz.func131 (congrArg some (Eq.refl (Body.n279 Tryz.laysAtoi_ren))),
   f280 := Eq.trans Tryz.func132 (congrArg some (Eq.refl (Body.n280 Tryz.laysAtoi_ren))),
   f281 := Eq.trans Tryz.func133 (congrArg some (Eq.refl (Body.n281 Tryz.laysAtoi_ren))),
   f282 := Eq.trans Tryz.func134 (congrArg some (Eq.refl (Body.n282 Tryz.laysAtoi_ren))),
   f283 := Eq.trans Tryz.func135 (congrArg some (Eq.refl (Body.n283 Tryz.laysAtoi_ren))),
   f284 := Eq.trans Tryz.func136 (congrArg some (Eq.refl (Body.n284 Tryz.laysAtoi_ren))),
   f285 := Eq.trans Tryz.func137 (congrArg some (Eq.refl (Body.n285 Tryz.laysAtoi_ren))),
   f286 := Eq.trans Tryz.func138 (congrArg some (Eq.refl (Body.n286 Tryz.laysAtoi_ren))),
   f287 := Eq.trans Tryz.func143 (congrArg some (Eq.refl (Body.n287 Tryz.laysAtoi_ren))),
   f316 := Eq.trans Tryz.func144 (congrArg some (Eq.refl (Body.n316 Tryz.laysAtoi_ren))),
   f317 := Eq.trans Tryz.func146 (congrArg some (Eq.refl (Body.n317 Tryz.laysAtoi_ren))),
   f318 := Eq.trans Tryz.func147 (congrArg some (Eq.refl (Body.n318 Tryz.laysAtoi_ren))),
   f319 := Eq.trans Tryz.func148 (congrArg some (Eq.refl (Body.n319 Tryz.laysAtoi_ren))),
   f320 := Eq.trans Tryz.func149 (congrArg some (Eq.refl (Body.n320 Tryz.laysAtoi_ren))),
   f321 := Eq.trans Tryz.func152 (congrArg some (Eq.refl (Body.n321 Tryz.laysAtoi_ren))),
   f322 := Eq.trans Tryz.func153 (congrArg some (Eq.refl (Body.n322 Tryz.laysAtoi_ren))),
   f337 := Eq.trans Tryz.func154 (congrArg some (Eq.refl (Body.n337 Tryz.laysAtoi_ren))),
   f338 := Eq.trans Tryz.func155 (congrArg some (Eq.refl (Body.n338 Tryz.laysAtoi_ren))), t0 := Tryz.underlying0,
   a0 := Tryz.isAgg0, z0 := Tryz.sizeOf0, v0 := Tryz.zeroValue0, t2 := Tryz.underlying2, a2 := Tryz.isAgg2,
   z2 := Tryz.sizeOf2, v2 := Tryz.zeroValue2, t3 := Tryz.underlying3, a3 := Tryz.isAgg3, z3 := Tryz.sizeOf3,
   v3 := Tryz.zeroValue3, t4 := Tryz.underlying4, a4 := Tryz.isAgg4, z4 := Tryz.sizeOf4, v4 := Tryz.zeroValue4,
   t5 := Tryz.underlying5, a5 := Tryz.isAgg5, z5 := Tryz.sizeOf5, v5 := Tryz.zeroValue5, t9 := Tryz.underlying9,
   a9 := Tryz.isAgg9, z9 := Tryz.sizeOf9, v9 := Tryz.zeroValue9, t20 := Tryz.underlying20, a20 := Tryz.isAgg20,
   z20 := Tryz.sizeOf20, v20 := Tryz.zeroValue20, t21 := Tryz.underlying21, a21 := Tryz.isAgg21, z21 := Tryz.sizeOf21,
   v21 := Tryz.zeroValue21, t37 := Tryz.underlying90, a37 := Tryz.isAgg90, z37 := Tryz.sizeOf90, v37 := Tryz.zeroValue90,
   t46 := Tryz.underlying84, a46 := Tryz.isAgg84, z46 := Tryz.sizeOf84, v46 := Tryz.zeroValue84,
   t51 := Tryz.underlying113, a51 := Tryz.isAgg113, z51 := Tryz.sizeOf113, v51 := Tryz.zeroValue113,
   t53 := Tryz.underlying115, a53 := Tryz.isAgg115, z53 := Tryz.sizeOf115, v53 := Tryz.zeroValue115,
   t75 := Tryz.underlying95, a75 := Tryz.isAgg95, z75 := Tryz.sizeOf95, v75 := Tryz.zeroValue95,
   t76 := Tryz.underlying96, a76 := Tryz.isAgg96, z76 := Tryz.sizeOf96, v76 := Tryz.zeroValue96,
   t85 := Tryz.underlying138, a85 := Tryz.isAgg138, z85 := Tryz.sizeOf138, v85 := Tryz.zeroValue138,
   t127 := Tryz.underlying120, a127 := Tryz.isAgg120, z127 := Tryz.sizeOf120, v127 := Tryz.zeroValue120,
   t143 := Tryz.underlying160, a143 := Tryz.isAgg160, z143 := Tryz.sizeOf160, v143 := Tryz.zeroValue160,
   t145 := Tryz.underlying162, a145 := Tryz.isAgg162, z145 := Tryz.sizeOf162, v145 := Tryz.zeroValue162,
   t167 := Tryz.underlying137, a167 := Tryz.isAgg137, z167 := Tryz.sizeOf137, v167 := Tryz.zeroValue137,
   t168 := Tryz.underlying140, a168 := Tryz.isAgg140, z168 := Tryz.sizeOf140, v168 := Tryz.zeroValue140,
   t171 := Tryz.underlying143, a171 := Tryz.isAgg143, z171 := Tryz.sizeOf143, v171 := Tryz.zeroValue143,
   t173 := Tryz.underlying145, a173 := Tryz.isAgg145, z173 := Tryz.sizeOf145, v173 := Tryz.zeroValue145,
   t175 := Tryz.underlying149, a175 := Tryz.isAgg149, z175 := Tryz.sizeOf149, v175 := Tryz.zeroValue149,
   t210 := Tryz.underlying152, a210 := Tryz.isAgg152, z210 := Tryz.sizeOf152, v210 := Tryz.zeroValue152,
   t212 := Tryz.underlying155, a212 := Tryz.isAgg155, z212 := Tryz.sizeOf155, v212 := Tryz.zeroValue155,
   t213 := Tryz.underlying156, a213 := Tryz.isAgg156, z213 := Tryz.sizeOf156, t232 := Tryz.underlying163,
   a232 := Tryz.isAgg163, z232 := Tryz.sizeOf163, v232 := Tryz.zeroValue163, t233 := Tryz.underlying164,
   a233 := Tryz.isAgg164, z233 := Tryz.sizeOf164, v233 := Tryz.zeroValue164,
   g15 := by kernel_rfl, g16 := by kernel_rfl,
   g17 := by kernel_rfl, g18 := by kernel_rfl,
   g19 := by kernel_rfl, t80 := Tryz.underlying99, a80 := Tryz.isAgg99, z80 := Tryz.sizeOf99,
   v80 := Tryz.zeroValue99, i0 := by kernel_rfl,
   i2 := by kernel_rfl,
   i3 := by kernel_rfl, i4 := by kernel_rfl,
   i5 := by kernel_rfl,
   i9 := by kernel_rfl, i20 := by kernel_rfl,
   i21 := by kernel_rfl,
   i37 := by kernel_rfl,
   i46 := by kernel_rfl,
   i51 := by kernel_rfl,
   i53 := by kernel_rfl, i75 := by kernel_rfl,
   i76 := by kernel_rfl,
   i80 := by kernel_rfl,
   i85 := by kernel_rfl,
   i127 := by kernel_rfl, i143 := by kernel_rfl,
   i145 := by kernel_rfl,
   i167 := by kernel_rfl,
   i168 := by kernel_rfl,
   i171 :=
     Eq.refl
       (some
         (some
             (Value.agg
               #[Value.int IntKind.u8 0, Value.int IntKind.u8 0, Value.int IntKind.u8 0, Value.int IntKind.u8 0,
                 Value.int IntKind.u8 0, Value.int IntKind.u8 0, Value.int IntKind.u8 0, Value.int IntKind.u8 0,
                 Value.int IntKind.u8 0, Value.int IntKind.u8 0, Value.int IntKind.u8 0, Value.int IntKind.u8 0,
                 Value.int IntKind.u8 0, Value.int IntKind.u8 0, Value.int IntKind.u8 0, Value.int IntKind.u8 0,
                 Value.int IntKind.u8 0, Value.int IntKind.u8 0, Value.int IntKind.u8 0, Value.int IntKind.u8 0,
                 Value.int IntKind.u8 0, Value.int IntKind.u8 0, Value.int IntKind.u8 0, Value.int IntKind.u8 0]),
           24, 24)),
   i173 := by kernel_rfl,
   i175 := by kernel_rfl,
   i210 :=
     Eq.refl
       (some (some (Value.agg #[Value.string { data := #[] }, Value.string { data := #[] }, Value.nilIface]), 3, 48)),
   i212 :=
     Eq.refl
       (some
         (some
             (Value.agg
               #[Value.int IntKind.u64 0, Value.int IntKind.u64 0, Value.int IntKind.u64 0, Value.int IntKind.u64 0,
                 Value.int IntKind.u64 0, Value.int IntKind.u64 0, Value.int IntKind.u64 0, Value.int IntKind.u64 0,
                 Value.int IntKind.u64 0, Value.int IntKind.u64 0, Value.int IntKind.u64 0, Value.int IntKind.u64 0,
                 Value.int IntKind.u64 0, Value.int IntKind.u64 0, Value.int IntKind.u64 0, Value.int IntKind.u64 0,
                 Value.int IntKind.u64 0, Value.int IntKind.u64 0, Value.int IntKind.u64 0, Value.int IntKind.u64 0]),
           20, 160)),
   i232 :=
     Eq.refl
       (some
         (some
             (Value.agg
               #[Value.int IntKind.u8 0, Value.int IntKind.u8 0, Value.int IntKind.u8 0, Value.int IntKind.u8 0,
                 Value.int IntKind.u8 0, Value.int IntKind.u8 0, Value.int IntKind.u8 0, Value.int IntKind.u8 0,
                 Value.int IntKind.u8 0, Value.int IntKind.u8 0, Value.int IntKind.u8 0, Value.int IntKind.u8 0,
                 Value.int IntKind.u8 0, Value.int IntKind.u8 0, Value.int IntKind.u8 0, Value.int IntKind.u8 0,
                 Value.int IntKind.u8 0, Value.int IntKind.u8 0, Value.int IntKind.u8 0, Value.int IntKind.u8 0,
                 Value.int IntKind.u8 0, Value.int IntKind.u8 0, Value.int IntKind.u8 0, Value.int IntKind.u8 0,
                 Value.int IntKind.u8 0, Value.int IntKind.u8 0, Value.int IntKind.u8 0, Value.int IntKind.u8 0,
                 Value.int IntKind.u8 0, Value.int IntKind.u8 0, Value.int IntKind.u8 0, Value.int IntKind.u8 0]),
           32, 32)),
   i233 :=
     Eq.refl
       (some
         (some
             (Value.agg
               (let y :=
                   let y :=
                     let y :=
                       let y :=
                         [Value.int IntKind.u8 0, Value.int IntKind.u8 0, Value.int IntKind.u8 0,
                           Value.int IntKind.u8 0];
                       Value.int IntKind.u8 0 ::
                         Value.int IntKind.u8 0 :: Value.int IntKind.u8 0 :: Value.int IntKind.u8 0 :: y;
                     let y :=
                       Value.int IntKind.u8 0 ::
                         Value.int IntKind.u8 0 :: Value.int IntKind.u8 0 :: Value.int IntKind.u8 0 :: y;
                     Value.int IntKind.u8 0 ::
                       Value.int IntKind.u8 0 :: Value.int IntKind.u8 0 :: Value.int IntKind.u8 0 :: y;
                   let y :=
                     let y :=
                       Value.int IntKind.u8 0 ::
                         Value.int IntKind.u8 0 :: Value.int IntKind.u8 0 :: Value.int IntKind.u8 0 :: y;
                     Value.int IntKind.u8 0 ::
                       Value.int IntKind.u8 0 :: Value.int IntKind.u8 0 :: Value.int IntKind.u8 0 :: y;
                   let y :=
                     Value.int IntKind.u8 0 ::
                       Value.int IntKind.u8 0 :: Value.int IntKind.u8 0 :: Value.int IntKind.u8 0 :: y;
                   Value.int IntKind.u8 0 ::
                     Value.int IntKind.u8 0 :: Value.int IntKind.u8 0 :: Value.int IntKind.u8 0 :: y;
                 let y :=
                   let y :=
                     let y :=
                       Value.int IntKind.u8 0 ::
                         Value.int IntKind.u8 0 :: Value.int IntKind.u8 0 :: Value.int IntKind.u8 0 :: y;
                     Value.int IntKind.u8 0 ::
                       Value.int IntKind.u8 0 :: Value.int IntKind.u8 0 :: Value.int IntKind.u8 0 :: y;
                   let y :=
                     Value.int IntKind.u8 0 ::
                       Value.int IntKind.u8 0 :: Value.int IntKind.u8 0 :: Value.int IntKind.u8 0 :: y;
                   Value.int IntKind.u8 0 ::
                     Value.int IntKind.u8 0 :: Value.int IntKind.u8 0 :: Value.int IntKind.u8 0 :: y;
                 let y :=
                   let y :=
                     Value.int IntKind.u8 0 ::
                       Value.int IntKind.u8 0 :: Value.int IntKind.u8 0 :: Value.int IntKind.u8 0 :: y;
                   Value.int IntKind.u8 0 ::
                     Value.int IntKind.u8 0 :: Value.int IntKind.u8 0 :: Value.int IntKind.u8 0 :: y;
                 let y :=
                   Value.int IntKind.u8 0 ::
                     Value.int IntKind.u8 0 :: Value.int IntKind.u8 0 :: Value.int IntKind.u8 0 :: y;
                 Value.int IntKind.u8 0 ::
                   Value.int IntKind.u8 0 :: Value.int IntKind.u8 0 :: Value.int IntKind.u8 0 :: y).toArray),
           64, 64)),
   m15 := by kernel_rfl, m16 := by kernel_rfl,
   m17 := by kernel_rfl, m18 := by kernel_rfl,
   m19 := by kernel_rfl, c0 := by kernel_rfl, c2 := by kernel_rfl,
   c3 := by kernel_rfl, c4 := by kernel_rfl, c5 := by kernel_rfl, c9 := by kernel_rfl,
   c20 := by kernel_rfl, c21 := by kernel_rfl, c37 := by kernel_rfl, c46 := by kernel_rfl,
   c51 := by kernel_rfl, c53 := by kernel_rfl, c75 := by kernel_rfl, c76 := by kernel_rfl,
   c80 := by kernel_rfl, c85 := by kernel_rfl, c127 := by kernel_rfl, c143 := by kernel_rfl,
   c145 := by kernel_rfl, c167 := by kernel_rfl, c168 := by kernel_rfl, c171 := by kernel_rfl,
   c173 := by kernel_rfl, c175 := by kernel_rfl, c210 := by kernel_rfl, c212 := by kernel_rfl,
   c213 := by kernel_rfl, c232 := by kernel_rfl, c233 := by kernel_rfl }
def Tryz.laysString_ren : Go.Shelf.Ren :=
 {
   f := fun x =>
     match x with
     | 169 => 83
     | n => n,
   t := fun x =>
     match x with
     | 70 => 89
     | 9 => 9
     | 0 => 0
     | 72 => 92
     | 37 => 90
     | 127 => 120
     | 3 => 3
     | 5 => 5
     | n => n,
   g := fun x =>
     have n := x;
     n }
theorem Tryz.laysString : Lays.n169 Tryz.prog Tryz.laysString_ren :=
 { mixed := by kernel_rfl, f169 := Eq.trans Tryz.func83 (congrArg some (Eq.refl (Body.n169 Tryz.laysString_ren))),
   t0 := Tryz.underlying0, a0 := Tryz.isAgg0, z0 := Tryz.sizeOf0, v0 := Tryz.zeroValue0, t3 := Tryz.underlying3,
   a3 := Tryz.isAgg3, z3 := Tryz.sizeOf3, v3 := Tryz.zeroValue3, t9 := Tryz.underlying9, a9 := Tryz.isAgg9,
   z9 := Tryz.sizeOf9, v9 := Tryz.zeroValue9, t37 := Tryz.underlying90, a37 := Tryz.isAgg90, z37 := Tryz.sizeOf90,
   v37 := Tryz.zeroValue90, t70 := Tryz.underlying89, a70 := Tryz.isAgg89, z70 := Tryz.sizeOf89, v70 := Tryz.zeroValue89,
   t72 := Tryz.underlying92, a72 := Tryz.isAgg92, z72 := Tryz.sizeOf92, v72 := Tryz.zeroValue92,
   t127 := Tryz.underlying120, a127 := Tryz.isAgg120, z127 := Tryz.sizeOf120, v127 := Tryz.zeroValue120 }
def Tryz.laysGrow_ren : Go.Shelf.Ren :=
 {
   f := fun x =>
     match x with
     | 241 => 110
     | 277 => 120
     | n => n,
   t := fun x =>
     match x with
     | 70 => 89
     | 3 => 3
     | 0 => 0
     | 72 => 92
     | 37 => 90
     | 5 => 5
     | n => n,
   g := fun x =>
     have n := x;
     n }
theorem Tryz.laysGrow : Lays.n241 Tryz.prog Tryz.laysGrow_ren :=
 { mixed := by kernel_rfl, f241 := Eq.trans Tryz.func110 (congrArg some (Eq.refl (Body.n241 Tryz.laysGrow_ren))),
   f277 := Eq.trans Tryz.func120 (congrArg some (Eq.refl (Body.n277 Tryz.laysGrow_ren))), t0 := Tryz.underlying0,
   a0 := Tryz.isAgg0, z0 := Tryz.sizeOf0, v0 := Tryz.zeroValue0, t3 := Tryz.underlying3, a3 := Tryz.isAgg3,
   z3 := Tryz.sizeOf3, v3 := Tryz.zeroValue3, t37 := Tryz.underlying90, a37 := Tryz.isAgg90, z37 := Tryz.sizeOf90,
   v37 := Tryz.zeroValue90, t70 := Tryz.underlying89, a70 := Tryz.isAgg89, z70 := Tryz.sizeOf89, v70 := Tryz.zeroValue89,
   t72 := Tryz.underlying92, a72 := Tryz.isAgg92, z72 := Tryz.sizeOf92, v72 := Tryz.zeroValue92 }
def Tryz.laysLen_ren : Go.Shelf.Ren :=
 {
   f := fun x =>
     match x with
     | 170 => 82
     | n => n,
   t := fun x =>
     match x with
     | 70 => 89
     | 3 => 3
     | 0 => 0
     | 72 => 92
     | 37 => 90
     | 5 => 5
     | n => n,
   g := fun x =>
     have n := x;
     n }
theorem Tryz.laysLen : Lays.n170 Tryz.prog Tryz.laysLen_ren :=
 { mixed := by kernel_rfl, f170 := Eq.trans Tryz.func82 (congrArg some (Eq.refl (Body.n170 Tryz.laysLen_ren))),
   t0 := Tryz.underlying0, a0 := Tryz.isAgg0, z0 := Tryz.sizeOf0, v0 := Tryz.zeroValue0, t3 := Tryz.underlying3,
   a3 := Tryz.isAgg3, z3 := Tryz.sizeOf3, v3 := Tryz.zeroValue3, t37 := Tryz.underlying90, a37 := Tryz.isAgg90,
   z37 := Tryz.sizeOf90, v37 := Tryz.zeroValue90, t70 := Tryz.underlying89, a70 := Tryz.isAgg89, z70 := Tryz.sizeOf89,
   v70 := Tryz.zeroValue89, t72 := Tryz.underlying92, a72 := Tryz.isAgg92, z72 := Tryz.sizeOf92,
   v72 := Tryz.zeroValue92 }
theorem jL (s sep : ByteArray) (m : Int) (w : World) (hs : s.size < 4294967281) (hm : w.cell? ⟨0, 0, none⟩ = some (.int .i64 m)) :
   Calls Tryz.prog 121 #[.string s, .string sep] w fun e w' => e = .returned (.tuple #[.string ⟨(Lib.cut s.data.toList sep.data.toList).1.toArray⟩, .string ⟨(Lib.cut s.data.toList sep.data.toList).2.1.toArray⟩, .bool (Lib.cut s.data.toList sep.data.toList).2.2]) ∧ ∃ n, w' = w.drewN n := Any.strings_Cut Tryz.laysCut s sep m w hs hm
theorem zl6 (s : ByteArray) (hmax : s.size ≤ 9223372036854775806) (v : Int) (h : Lib.atoiAll s.data.toList = .ok v) (w : World) :
   Calls Tryz.prog 122 #[.string s] w fun e w' => e = .returned (.tuple #[.int .i64 v, .nilIface]) ∧ (w' = w ∨ ∃ t, w' = Lib.bytesWorld w 5 t) := Any.strconv_Atoi_ok Tryz.laysAtoi s hmax v h w
theorem zl7 (n : Int) (h0 : -9223372036854775808 ≤ n) (h1 : n ≤ 9223372036854775807) (w : World) (htab : Lib.TabIs Tryz.prog w "internal/strconv.uint64pow10" .u64 Lib.pow10Tab) :
   Calls Tryz.prog 112 #[.int .i64 n] w fun e w' => e = .returned (.string ⟨(Lib.itoa n).toArray⟩) ∧ ∃ k os, w' = Sort.grow (w.drewN k) os := Any.strconv_Itoa Tryz.laysItoa n h0 h1 w htab
theorem zl8 (s : ByteArray) (m : Int) (w : World) (hm : w.cell? ⟨0, 0, none⟩ = some (.int .i64 m)) (x y : List UInt8) (hc : Lib.cut (s.data.toList.take (min (s.size : Int) 21).toNat) [59] = (x, y, false)) :
   Calls Tryz.prog 111 #[.string s] w fun e w' => e = .returned (.tuple #[.int .i64 0, .string ⟨#[]⟩, .bool false]) ∧ ∃ n, w' = w.drewN n := by
 go_enter Tryz.func111, Tryz.ntmps111
 go_wp2_with (go_at_call 121; refine (jL _ _ m _ ?_ hm).mono ?_)
 · simp only [ByteArray.size_extract]; omega
 rintro e w' rfl n rfl
 go_wp2
 go_ret3
 exact ⟨rfl, _, rfl⟩
theorem zl9 (s : ByteArray) (m : Int) (w : World) (hm : w.cell? ⟨0, 0, none⟩ = some (.int .i64 m)) (x y : List UInt8) (hc : Lib.cut (s.data.toList.take (min (s.size : Int) 21).toNat) [59] = (x, y, true)) (hx : x.length ≤ 20) (hxs : x.length + 1 ≤ s.size) (v : Int) (hv : Lib.atoiAll x = .ok v)
   (h0 : -9223372036854775808 ≤ v) (h1 : v ≤ 9223372036854775807) (htab : ∀ w', Below w.heap.size w w' → Lib.TabIs Tryz.prog w' "internal/strconv.uint64pow10" .u64 Lib.pow10Tab) :
   Calls Tryz.prog 111 #[.string s] w fun e w' => e = .returned (if Lib.itoa v = x then .tuple #[.int .i64 v, .string ⟨(s.data.toList.drop (x.length + 1)).toArray⟩, .bool true] else .tuple #[.int .i64 0, .string ⟨#[]⟩, .bool false]) ∧ Below w.heap.size w w' := by
 go_enter Tryz.func111, Tryz.ntmps111
 go_wp2_with (go_at_call 121; refine (jL _ _ m _ ?_ hm).mono ?_)
 · simp only [ByteArray.size_extract]; omega
 rintro e w' rfl n rfl
 go_wp2_with (go_at_call 122; refine (zl6 _ ?_ v hv _).mono ?_)
 · show x.toArray.size ≤ _
   simp; omega
 rintro e w' ⟨rfl, hw⟩
 have hwb : Below w.heap.size w w' := by
   rcases hw with rfl | ⟨t, rfl⟩
   · exact ⟨rfl, rfl, rfl, Nat.le_refl _, fun _ _ => rfl⟩
   · have h9 := Lib.bytesWorld_below (w.drewN n) 5 t
     exact Below.trans (show Below w.heap.size w (w.drewN n) from ⟨rfl, rfl, rfl, Nat.le_refl _, fun _ _ => rfl⟩) h9
 go_wp2_with (go_at_call 112; refine (zl7 v h0 h1 _ ?_).mono ?_)
 · exact htab _ hwb
 rintro e w'' ⟨rfl, k, os, rfl⟩
 have hb2 : Below w.heap.size w (Sort.grow (w'.drewN k) os) := hwb.trans ⟨rfl, rfl, rfl, by show w'.heap.size ≤ (w'.heap ++ os).size; rw [Array.size_append]; omega, fun b hb => by
   show (w'.heap ++ os)[b]? = _
   exact Array.getElem?_append_left (Nat.lt_of_lt_of_le hb hwb.size)⟩
 generalize Sort.grow (w'.drewN k) os = w2 at hb2
 have hsz : (⟨x.toArray⟩ : ByteArray).size = x.length := by show x.toArray.size = _; simp
 have hwr : IntKind.i64.wrap ((x.length : Int) + 1) = (x.length : Int) + 1 := by unfold IntKind.wrap; simp [IntKind.signed, IntKind.bits]; omega
 have hsl : (x.length : Int) + 1 ≤ s.size := by omega
 by_cases hi : Lib.itoa v = x
 · subst hi
   go_wp2
   go_quiet (fail)
   go_wp2
   go_ret3
   refine ⟨?_, hb2.trans ⟨rfl, rfl, rfl, Nat.le_refl _, fun _ _ => rfl⟩⟩
   have hex : s.extract ((Lib.itoa v).length + 1) s.size = ⟨(s.data.toList.drop ((Lib.itoa v).length + 1)).toArray⟩ := by
     have hl : s.size = s.data.toList.length := by rw [Array.length_toList]; rfl
     apply ByteArray.ext
     apply Array.ext'
     rw [ByteArray.data_extract, hl, Array.toList_extract, List.extract_eq_take_drop]
     exact List.take_of_length_le (by rw [List.length_drop]; omega)
   first
     | (rw [← hex]; rfl)
     | (rw [if_pos rfl, ← hex]; rfl)
 · have hne : ¬ (⟨(Lib.itoa v).toArray⟩ : ByteArray) = ⟨x.toArray⟩ := fun e => hi (by simpa using congrArg (fun b : ByteArray => b.data.toList) e)
   go_wp2
   · go_ret3
     exact ⟨rfl, hb2⟩
   · exfalso
     simp_all
theorem zma (s : ByteArray) (hlim : s.size ≤ 281474976710656) (h : ∀ v, Lib.atoiAll s.data.toList ≠ .ok v) (w : World)
   (ev1 ev2 : Value) (h1 : w.cell? ⟨Tryz.laysAtoi_ren.g 15, 0, none⟩ = some ev1) (he1 : ev1 = .nilIface ∨ ∃ te pe, ev1 = .iface te pe) (h2 : w.cell? ⟨Tryz.laysAtoi_ren.g 16, 0, none⟩ = some ev2) (he2 : ev2 = .nilIface ∨ ∃ te pe, ev2 = .iface te pe) :
   Calls Tryz.prog 122 #[.string s] w fun e w' => ∃ n N, e = .returned (.tuple #[.int .i64 n, .iface (Tryz.laysAtoi_ren.t 168) (.pointer (some ⟨N, 0, none⟩))]) ∧ Below w.heap.size w w' := by
 cases hx : Lib.atoiAll s.data.toList with
 | ok v => exact absurd hx (h v)
 | range =>
   refine (Any.strconv_Atoi_range Tryz.laysAtoi s hlim hx ev2 w h2 he2).mono ?_
   rintro e w' ⟨N, rfl, -, -, hb⟩
   exact ⟨_, N, rfl, hb⟩
 | _ =>
   refine (Any.strconv_Atoi_syntax Tryz.laysAtoi s hlim hx ev1 w h1 he1).mono ?_
   rintro e w' ⟨N, rfl, -, -, hb⟩
   exact ⟨_, N, rfl, hb⟩
theorem zmb (s : ByteArray) (m : Int) (w : World) (hm : w.cell? ⟨0, 0, none⟩ = some (.int .i64 m)) (x y : List UInt8) (hc : Lib.cut (s.data.toList.take (min (s.size : Int) 21).toNat) [59] = (x, y, true)) (hx : x.length ≤ 20)
   (h : ∀ v, Lib.atoiAll x ≠ .ok v)
   (ev1 ev2 : Value) (h1 : w.cell? ⟨Tryz.laysAtoi_ren.g 15, 0, none⟩ = some ev1) (he1 : ev1 = .nilIface ∨ ∃ te pe, ev1 = .iface te pe) (h2 : w.cell? ⟨Tryz.laysAtoi_ren.g 16, 0, none⟩ = some ev2) (he2 : ev2 = .nilIface ∨ ∃ te pe, ev2 = .iface te pe) :
   Calls Tryz.prog 111 #[.string s] w fun e w' => e = .returned (.tuple #[.int .i64 0, .string ⟨#[]⟩, .bool false]) ∧ Below w.heap.size w w' := by
 go_enter Tryz.func111, Tryz.ntmps111
 go_wp2_with (go_at_call 121; refine (jL _ _ m _ ?_ hm).mono ?_)
 · simp only [ByteArray.size_extract]; omega
 rintro e w' rfl n rfl
 have hf := zma ⟨x.toArray⟩ (by show x.toArray.size ≤ _; simp; omega) (show ∀ v, Lib.atoiAll (⟨x.toArray⟩ : ByteArray).data.toList ≠ .ok v from h) (w.drewN n) ev1 ev2 h1 he1 h2 he2
 go_wp2_with (go_at_call 122; refine hf.mono ?_)
 rintro e w' ⟨nn, N, rfl, hb⟩
 go_wp2
 go_ret3
 exact ⟨rfl, Below.trans (show Below w.heap.size w (w.drewN n) from ⟨rfl, rfl, rfl, Nat.le_refl _, fun _ _ => rfl⟩) hb⟩
end Go.Proofs
set_option maxRecDepth 10000
namespace Go.Wire
open Go.Lib
theorem zhl : ∀ t : Txt, index t [59] = if (59 : UInt8) ∈ t then ((t.takeWhile fun c => decide (c ≠ 59)).length : Int) else -1
 | [] => rfl
 | b :: l => by
   have ih := zhl l
   rw [index]
   by_cases hb : b = 59
   · subst hb
     have e : ([59] : List UInt8).isPrefixOf (59 :: l) = true := by simp [List.isPrefixOf]
     rw [e]
     simp
   · have e : ([59] : List UInt8).isPrefixOf (b :: l) = false := by
       simp only [List.isPrefixOf, Bool.and_true, beq_eq_false_iff_ne]
       exact fun h => hb h.symm
     rw [e, ih]
     have hm : (59 : UInt8) ∈ b :: l ↔ 59 ∈ l := ⟨fun h => (List.mem_cons.1 h).resolve_left (fun h => hb h.symm), List.mem_cons_of_mem _⟩
     by_cases h : (59 : UInt8) ∈ l
     · rw [if_pos h, if_pos (hm.2 h), List.takeWhile_cons_of_pos (by simpa using hb)]
       have : ¬ (((l.takeWhile fun c => decide (c ≠ 59)).length : Int) == -1) = true := by
         simp only [beq_iff_eq]; omega
       simp only [Bool.false_eq_true, if_false, this, List.length_cons]
       push_cast; rfl
     · rw [if_neg h, if_neg (fun h2 => h (hm.1 h2))]
       rfl
theorem zmc (t : Txt) : (cut t [59]).2.2 = decide ((59 : UInt8) ∈ t) ∧ ((59 : UInt8) ∈ t → (cut t [59]).1 = t.takeWhile fun c => decide (c ≠ 59)) := by
 unfold cut
 rw [zhl]
 by_cases h : (59 : UInt8) ∈ t
 · rw [if_pos h, if_pos (by omega)]
   refine ⟨by simp [h], fun _ => ?_⟩
   obtain ⟨r, hr⟩ := jI h
   generalize (t.takeWhile fun c => decide (c ≠ 59)) = x at hr ⊢
   show t.take (x.length : Int).toNat = x
   rw [hr, Int.toNat_natCast]
   simp
 · rw [if_neg h, if_neg (by omega)]
   exact ⟨by simp [h], fun h2 => absurd h2 h⟩
end Go.Wire
set_option maxRecDepth 100000
namespace Go.Proofs
open Go.Shelf Go.RowKit Go.Wire
def riV (t : Txt) : Value := match rI t with
 | some (n, r) => .tuple #[.int .i64 n, .string ⟨r.toArray⟩, .bool true]
 | none => .tuple #[.int .i64 0, .string ⟨#[]⟩, .bool false]
theorem zmd (s : ByteArray) (m : Int) (w : World) (hm : w.cell? ⟨0, 0, none⟩ = some (.int .i64 m)) (htab : ∀ w', Below w.heap.size w w' → Lib.TabIs Tryz.prog w' "internal/strconv.uint64pow10" .u64 Lib.pow10Tab)
   (ev1 ev2 : Value) (h1 : w.cell? ⟨Tryz.laysAtoi_ren.g 15, 0, none⟩ = some ev1) (he1 : ev1 = .nilIface ∨ ∃ te pe, ev1 = .iface te pe) (h2 : w.cell? ⟨Tryz.laysAtoi_ren.g 16, 0, none⟩ = some ev2) (he2 : ev2 = .nilIface ∨ ∃ te pe, ev2 = .iface te pe) :
   Calls Tryz.prog 111 #[.string s] w fun e w' => e = .returned (riV s.data.toList) ∧ Below w.heap.size w w' := by
 have hl : s.size = s.data.toList.length := by rw [Array.length_toList]; rfl
 have ht : s.data.toList.take (min (s.size : Int) 21).toNat = s.data.toList.take 21 := by
   by_cases h : s.size ≤ 21
   · rw [show (min (s.size : Int) 21).toNat = s.size by omega, hl, List.take_length, List.take_of_length_le (by omega)]
   · rw [show (min (s.size : Int) 21).toNat = 21 by omega]
 obtain ⟨c1, c2⟩ := zmc (s.data.toList.take 21)
 by_cases h59 : (59 : UInt8) ∈ s.data.toList.take 21
 · obtain ⟨r, hr⟩ := jI h59
   have hx := c2 h59
   have hri : rI s.data.toList = match Lib.atoiAll ((s.data.toList.take 21).takeWhile fun c => decide (c ≠ 59)) with
     | .ok n => if Lib.itoa n = (s.data.toList.take 21).takeWhile (fun c => decide (c ≠ 59)) then some (n, s.data.toList.drop ((Lib.itoa n).length + 1)) else none
     | _ => none := by
     first
       | (rw [rI, if_pos h59]; done)
       | (rw [rI, if_pos h59]; cases Lib.atoiAll ((s.data.toList.take 21).takeWhile fun c => decide (c ≠ 59)) <;> rfl)
   generalize ((s.data.toList.take 21).takeWhile fun c => decide (c ≠ 59)) = x at hr hx hri
   have hlen := congrArg List.length hr
   rw [List.length_take, List.length_append, List.length_cons] at hlen
   have hc : Lib.cut (s.data.toList.take (min (s.size : Int) 21).toNat) [59] = (x, (Lib.cut (s.data.toList.take 21) [59]).2.1, true) := by
     rw [ht]
     refine Prod.ext hx (Prod.ext rfl ?_)
     show _ = true
     rw [c1]; simpa using h59
   cases ha : Lib.atoiAll x with
   | ok v =>
     obtain ⟨b0, b1⟩ := zhe ha
     refine (zl9 s m w hm x _ hc (by omega) (by omega) v ha b0 b1 htab).mono ?_
     rintro e w' ⟨rfl, hb⟩
     refine ⟨?_, hb⟩
     rw [riV, hri, ha]
     by_cases hi : Lib.itoa v = x
     · simp only [hi, if_true]
     · simp only [hi, if_false]
   | _ =>
     refine (zmb s m w hm x _ hc (by omega) (by intro v; rw [ha]; intro e; cases e) ev1 ev2 h1 he1 h2 he2).mono ?_
     rintro e w' ⟨rfl, hb⟩
     exact ⟨by rw [riV, hri, ha], hb⟩
 · have hc : Lib.cut (s.data.toList.take (min (s.size : Int) 21).toNat) [59] = ((Lib.cut (s.data.toList.take 21) [59]).1, (Lib.cut (s.data.toList.take 21) [59]).2.1, false) := by
     rw [ht]
     refine Prod.ext rfl (Prod.ext rfl ?_)
     show _ = false
     rw [c1]; simpa using h59
   refine (zl8 s m w hm _ _ hc).mono ?_
   rintro e w' ⟨rfl, n, rfl⟩
   exact ⟨by rw [riV, rI, if_neg h59], ⟨rfl, rfl, rfl, Nat.le_refl _, fun _ _ => rfl⟩⟩
end Go.Proofs
set_option maxRecDepth 100000
set_option maxHeartbeats 2000000
namespace Go.Proofs
open Go.Shelf Go.RowKit Go.Lib
theorem Tryz.bx169 : Builder.Extra Tryz.prog Tryz.laysString_ren where
 sizeBuilder := by kernel_rfl
 liesBuilder := by kernel_rfl
 t5 := Tryz.underlying5
 a5 := Tryz.isAgg5
 z5 := Tryz.sizeOf5
 v5 := Tryz.zeroValue5
 infoByte := by kernel_rfl
 cellsByte := by kernel_rfl
 sizeByte := by kernel_rfl
 neB5 := by decide
theorem zme (b : Nat) (w : World) (h0 : w.cell? ⟨b, 0, none⟩ = some (.pointer (some ⟨b, 0, none⟩))) :
   Calls Tryz.prog 109 #[.pointer (some ⟨b, 0, none⟩)] w fun e w' => e = .returned (.tuple #[]) ∧ w' = w := by
 obtain ⟨j, hj, _⟩ := Option.map_eq_some_iff.1 Tryz.bx169.sizeBuilder
 go_enter Tryz.func109, Tryz.ntmps109
 go_wp2
 rw [Lib.run_neq_ptr_same w _ Tryz.underlying89 hj]
 go_wp2
 go_end0
 exact ⟨rfl, rfl⟩
theorem zhm (b : Nat) (w : World) (h0 : w.cell? ⟨b, 0, none⟩ = some (.pointer none)) (hsh : w.shape? b = some (92, 2)) (hfz : w.frozen? ⟨b, 0, none⟩ = false) :
   Calls Tryz.prog 109 #[.pointer (some ⟨b, 0, none⟩)] w fun e w' => e = .returned (.tuple #[]) ∧ w' = w.setCell ⟨b, 0, none⟩ (.pointer (some ⟨b, 0, none⟩)) := by
 obtain ⟨j, hj, hjs⟩ := Option.map_eq_some_iff.1 Tryz.bx169.sizeBuilder
 go_enter Tryz.func109, Tryz.ntmps109
 go_wp2
 rw [Lib.run_to_unsafe w ⟨b, 0, none⟩ Tryz.underlying89 Tryz.underlying127 hj (by rw [hjs]; decide) hsh (Nat.zero_lt_succ 1)]
 simp only [Result.andThen]
 rw [Oper.upon_value]
 go_wp2
 rw [run_callFunc_extern Tryz.func119 (by kernel_rfl) (by kernel_rfl) (by kernel_rfl) (e := Extern.AbiNoEscape.same) (by kernel_rfl)]
 rw [Lib.run_noEscape]
 simp only [Result.andThen]
 rw [Oper.upon_value]
 go_wp2
 rw [Lib.run_from_unsafe w ⟨b, 0, none⟩ Tryz.underlying127 Tryz.underlying89 hj hsh Tryz.bx169.liesBuilder]
 simp only [Result.andThen]
 rw [Oper.upon_value]
 go_wp2
 go_end0
 exact ⟨rfl, rfl⟩
theorem zmf (B b : Nat) (bs : List Value) (w : World) (h : Lib.IsBuilderF 92 5 B b bs w) :
   Calls Tryz.prog 109 #[.pointer (some ⟨b, 0, none⟩)] w fun e w' => e = .returned (.tuple #[]) ∧ Lib.BuilderAtF 92 5 B b (.pointer (some ⟨b, 0, none⟩)) bs w' ∧ Below B w w' := by
 rcases h with h | h
 · refine (zhm b w h.cell0 h.shape h.frozen0).mono ?_
   rintro e w' ⟨rfl, rfl⟩
   exact ⟨rfl, h.used _, (Below.refl B w).setCell (p := ⟨b, 0, none⟩) h.1 _⟩
 · refine (zme b w h.cell0).mono ?_
   rintro e w' ⟨rfl, rfl⟩
   exact ⟨rfl, h, Below.refl B _⟩
theorem jM (B b : Nat) (bs : List Value) (s : ByteArray) (w : World) (h : Lib.IsBuilderF 92 5 B b bs w) (hlen : bs.length + s.size ≤ 140737488355328) (hBw : B ≤ w.heap.size) :
   Calls Tryz.prog 81 #[.pointer (some ⟨b, 0, none⟩), .string s] w fun e w' => e = .returned (.tuple #[.int .i64 s.size, .nilIface]) ∧ Lib.IsBuilderF 92 5 B b (bs ++ Lib.strCells s) w' ∧ Below B w w' := by
 obtain ⟨i0, hi, hz0, hz1, hz2⟩ := info_parts Tryz.bx169.infoByte
 go_enter Tryz.func81, Tryz.ntmps81
 go_wp2_with (go_at_call 109; refine (zmf B b bs _ h).mono ?_)
 rintro e w1 ⟨rfl, h1, hb1⟩
 obtain ⟨hB, v, hbk, hown, hne⟩ := h1
 have c0 : w1.cell? ⟨b, 0, none⟩ = some (.pointer (some ⟨b, 0, none⟩)) := by rw [Lib.cell_of_heap hbk]; rfl
 have c1 : w1.cell? ⟨b, 1, none⟩ = some v := by rw [Lib.cell_of_heap hbk]; rfl
 go_wp2_with (at_builtin; refine Lib.wpList_append_own_stringF _ rfl _ _ 90 9 rfl B 5 i0 Tryz.underlying90 Tryz.underlying9 hi hz0 hz1 hz2 _ _ _ rfl hown s rfl ?c3 ?c4 ?c5 ?_)
 case c3 => unfold maxLen; omega
 case c4 => omega
 case c5 => have := hb1.size; omega
 intro v' w2 hown' hgrow _
 have hlt : b < w1.heap.size := by
   rcases Nat.lt_or_ge b w1.heap.size with h' | h'
   · exact h'
   · simp [Array.getElem?_eq_none h'] at hbk
 have hb2 : w2.heap[b]? = some (.cells #[.pointer (some ⟨b, 0, none⟩), v] 92 (0, 0)) := by
   rw [hgrow.block b hlt (fun e => hne e.symm)]
   exact hbk
 have d0 : w2.cell? ⟨b, 0, none⟩ = some (.pointer (some ⟨b, 0, none⟩)) := by rw [Lib.cell_of_heap hb2]; rfl
 have d1 : w2.cell? ⟨b, 1, none⟩ = some v := by rw [Lib.cell_of_heap hb2]; rfl
 have f1 : w2.frozen? ⟨b, 1, none⟩ = false := Lib.frozen_of_heap hb2 1
 obtain ⟨ao, n', cap, rfl⟩ : ∃ ao n' cap, v' = .slice ao n' cap := by
   rcases hown'.2 with ⟨hv, _⟩ | ⟨g, cap, cur, fz, hv, _⟩
   · exact ⟨_, _, _, hv⟩
   · exact ⟨_, _, _, hv⟩
 go_wp2
 go_ret2
 refine ⟨rfl, .inr ?_, ?_⟩
 · exact Lib.BuilderAtF.put (T := 92) (e := 5) hB hb2 (bs' := bs ++ Lib.strCells s) (by simpa [Lib.strCells_length] using hown') (by decide)
 · exact (hb1.grown hgrow (by have := hb1.size; omega) (fun k hk => (hown.lt k hk).1)).setCell (p := ⟨b, 1, none⟩) hB _
end Go.Proofs
set_option maxRecDepth 100000
set_option maxHeartbeats 4000000
namespace Go.Abs
open Go.Proofs Go.Wire Go.RowKit
def x7 (s : Txt) : List C := [.str s]
@[simp] theorem zoq (s : Txt) : C.normRow (x7 s) = x7 s := rfl
def strs (l : List Txt) : List (List C) := l.map x7
@[simp] theorem zA (l : List Txt) : C.normRows (strs l) = strs l := v8 (fun _ => rfl) l
@[simp] theorem strs_len (l : List Txt) : (strs l).length = l.length := by simp [strs]
theorem zX {l : List Txt} {i : Nat} (h : i < l.length) : (strs l).getD i [] = [.str l[i]] := by simp [strs, x7, h]
@[simp] theorem zor (l : List Txt) : (strs l).isEmpty = l.isEmpty := by cases l <;> rfl
theorem uC (l : List Txt) (s : Txt) : strs l ++ [[.str s]] = strs (l ++ [s]) := by simp [strs, x7]
theorem zmg {α : Type} {a b : List α} {i : Nat} (ha : i < a.length) (hb : i < b.length) (h : a.take i = b.take i) (e : a[i] = b[i]) : a.take (i + 1) = b.take (i + 1) := by
 rw [List.take_add_one, List.take_add_one, h, List.getElem?_eq_getElem ha, List.getElem?_eq_getElem hb, e]
theorem w26 (a b : List Txt) : Spec Tryz.prog 20 [lst 1 (strs a), lst 1 (strs b)] (fun r => r = .bool (decide (a = b))) := by
 refine Spec.of_len hf20 fun hlen => ?_
 have hl := sP (sz := 1) (rows := strs a) List.mem_cons_self hlen
 rw [strs_len] at hl
 clear hlen
 refine Spec.of_awlS hf20 okf20 (by simp) fun S hS => ?_
 by_cases hab : a.length = b.length
 · have c0 : ((a.length : Int) != b.length) = false := by simp [hab]
   simp only [strs_len, c0, Qs, if_true, Nat.reduceAdd, Nat.reduceBEq, uu f20.eq_1, uu f20b16.eq_1, vv f20r17.eq_1, uu f20b18.eq_1, uu f20b19.eq_1, uu f20b22.eq_1, vv f20r23.eq_1, uu f20b24.eq_1, uu f20b25.eq_1, vv f20r26.eq_1, uu f20b27.eq_1]
   rw [zlh]
   refine zU (fun i : Nat => [(0, lst 1 (strs a)), (1, lst 1 (strs b)), (5, .int .i64 i)]) (fun _ => [])
     (fun i => i ≤ a.length ∧ a.take i = b.take i) (fun i => a.length - i) 0 rfl rfl ⟨Nat.zero_le _, rfl⟩ ?_
   rintro i ⟨hi, hj⟩
   by_cases hlt : i < a.length
   · have c1 : (i : Int) < a.length := by omega
     have c2 : (i : Int) < b.length := by omega
     have hltb : i < b.length := by omega
     have c4 : IntKind.i64.wrap ((i : Int) + 1) = (i : Int) + 1 := wrap_in (by omega) (by omega)
     simp only [strs_len, c1, c2, c4, zX hlt, zX hltb, Qs, if_true, List.nodup_nil, Nat.reduceBEq, vv f20r3.eq_1, vv f20r4.eq_1, uu f20b5.eq_1, uu f20b6.eq_1, vv f20r7.eq_1, uu f20b8.eq_1, uu f20b9.eq_1, uu f20b10.eq_1, uu f20b11.eq_1, vv f20r12.eq_1, uu f20b13.eq_1, uu f20b14.eq_1]
     refine ⟨fun h => Next.intro (i + 1) rfl rfl ⟨by omega, zmg hlt hltb hj h⟩ (by omega), fun h => fin hS ?_⟩
     have : a ≠ b := fun e => h (by subst e; rfl)
     simp [this]
   · have c1 : ¬ (i : Int) < a.length := by omega
     simp only [strs_len, c1, Qs, if_true, List.nodup_nil, Nat.reduceBEq, vv f20r1.eq_1, uu f20b2.eq_1, uu f20b11.eq_1, vv f20r12.eq_1, uu f20b13.eq_1, uu f20b14.eq_1]
     rw [List.take_of_length_le (by omega), List.take_of_length_le (by omega)] at hj
     exact fin hS (by simp [hj])
 · have c0 : ((a.length : Int) != b.length) = true := by simp; omega
   simp only [strs_len, c0, Qs, if_true, List.nodup_nil, Nat.reduceAdd, Nat.reduceBEq, uu f20.eq_1, vv f20r20.eq_1, uu f20b21.eq_1, uu f20b22.eq_1, vv f20r23.eq_1, uu f20b24.eq_1, uu f20b25.eq_1, vv f20r26.eq_1, uu f20b27.eq_1]
   have : a ≠ b := fun e => hab (by rw [e])
   exact fin hS (by simp [this])
theorem zmh {s : Txt} {i : Nat} (h : i < s.length) : s.getD i 0 = s[i] := by simp [h]
theorem jN {s : Txt} {i : Nat} (h : i < s.length) : s.drop i = s.getD i 0 :: s.drop (i + 1) := by rw [zmh h]; exact List.drop_eq_getElem_cons h
def y4 (r : Option (Int × Txt)) : V := match r with
 | some (n, r) => .tup [.int .i64 n, .str r, .bool true]
 | none => .tup [.int .i64 0, .str [], .bool false]
theorem Spec.of_awlP {P : Program} {f : FuncId} {n : Nat} {c : AQ} {rs : List RX} {args : List V} {X : V} (hc : zG P f = some ⟨n, c.erase, rs⟩) (hok : c.ok = true) (hlen : args.length ≤ n)
   (h : ∀ S : V → Prop, (∀ r, r.fz.nrm = X → S r) → awl P c (endK rs S) (initT 0 args) []) : Spec P f args (fun r => r = X) :=
 (Spec.of_awl hc hok hlen (h (fun r => r.fz.nrm = X) fun _ h => h)).plain.mono (by rintro r' ⟨r, h, rfl⟩; exact h)
theorem jO (r : Option (Int × Txt)) : (y4 r).scalar = true := by unfold y4; split <;> rfl
def wE (r : Option (Txt × Txt)) : V := match r with
 | some (n, r) => .tup [.str n, .str r, .bool true]
 | none => .tup [.str [], .str [], .bool false]
theorem sR (r : Option (Txt × Txt)) : (wE r).scalar = true := by unfold wE; split <;> rfl
theorem zhn {s r : Txt} {n : Int} (h : rI s = some (n, r)) : r.length ≤ s.length := by
 have h1 := (jJ h).2
 rw [h1, List.length_append]; omega
theorem jP {n : Int} (h : inI n) : (wI n).length ≤ 21 := by
 have := nJ h
 rw [wI, List.length_append, List.length_singleton]; omega
theorem zho {s : Txt} (h : s.length ≤ 1000000000000) : (wS s).length ≤ 21 + s.length := by
 have := jP (n := s.length) ⟨by omega, by omega⟩
 rw [wS, List.length_append]; omega
theorem vL {P : Program} {f : FuncId} (h : (match P.funcs[f]? with | some fn => fn.body.isSome && !(fn.name == "runtime.NumGoroutine") | none => false) = true) : wZ P f := by
 unfold wZ
 cases hf : P.funcs[f]? with
 | none => rw [hf] at h; simp at h
 | some fn => rw [hf] at h; simp only [Bool.and_eq_true, Bool.not_eq_true'] at h; exact ⟨fn, rfl, h.1, h.2⟩
theorem wU {w w' : World} (h : Below w.heap.size w w') : yO w w' := ⟨h.os, h.tape, h.output, h.size, h.block⟩
theorem zhp {w w' : World} (h : yO w w') : Below w.heap.size w w' := ⟨h.os, h.tape, h.output, h.size, h.block⟩
theorem zhq {w : World} (hG : yP (base w)) : Go.Lib.TabIs Tryz.prog w "internal/strconv.uint64pow10" .u64 Go.Lib.pow10Tab := by
 obtain ⟨_, b, hb, hp⟩ := hG.2 3 _ rfl
 have hn : Tryz.prog.globalNamed "internal/strconv.uint64pow10" = some 3 := by kernel_rfl
 unfold Go.Lib.TabIs World.var?
 rw [hn, Option.bind_some]
 have hb' : w.heap[3]? = some b := hb
 rw [hb']
 cases b with
 | cells cs t f =>
   have e : cs = _ := hp
   simp only [e]
   rfl
 | _ => exact hp.elim
theorem jQ {w : World} {g : Nat} {p : Value → Prop} (hG : yP (base w)) (h : zab g = some (cell0 p)) : ∃ v, w.cell? ⟨g, 0, none⟩ = some v ∧ p v := by
 obtain ⟨_, b, hb, hp⟩ := hG.2 g _ h
 have hb' : w.heap[g]? = some b := hb
 cases b with
 | cells cs t f =>
   obtain ⟨v, h1, h2⟩ := hp
   exact ⟨v, by simp only [World.cell?, hb']; exact h1, h2⟩
 | _ => exact hp.elim
theorem w27 (n : Int) (h : inI n) : Spec Tryz.prog 112 [.int .i64 n] (fun r => r = .str (Go.Lib.itoa n)) :=
 zk5 Tryz.laysItoa (vL (by kernel_rfl)) (fun w hG => zhq hG) n h.1 h.2
theorem zmi (s : Txt) (w : World) (Z : Bk → Prop) : zE w Z (fun _ => none) (fun _ => none) (y4 (rI s)) (riV s) := by
 unfold riV y4
 cases rI s with
 | none => exact ⟨_, rfl, rfl, ⟨rfl, .int _ _⟩, ⟨rfl, .str _⟩, ⟨rfl, .bool _⟩, trivial⟩
 | some p => exact ⟨_, rfl, rfl, ⟨rfl, .int _ _⟩, ⟨rfl, .str _⟩, ⟨rfl, .bool _⟩, trivial⟩
theorem zhr (r : Option (Int × Txt)) : (∀ n, (y4 r).reg n = (y4 r, [])) ∧ ∀ τ, (y4 r).noRef τ = true := by
 unfold y4
 split <;> exact ⟨fun _ => rfl, fun _ => rfl⟩
theorem w17 (s : Txt) : Spec Tryz.prog 111 [.str s] (fun r => r = y4 (rI s)) := by
 refine ⟨vL (by kernel_rfl), fun w Z vs hG hz ha => ?_⟩
 obtain ⟨l⟩ := vs
 match l, ha with
 | [], ha => exact absurd ha.1 (by simp)
 | _ :: _ :: _, ha => exact absurd ha.1 (by simp)
 | [v1], ha =>
   have e1 := uO (ha.2 0 _ v1 rfl rfl).2.2
   subst e1
   obtain ⟨_, h0, m, rfl⟩ := jQ hG (g := 0) rfl
   obtain ⟨ev1, h1, he1⟩ := jQ hG (g := 1) rfl
   obtain ⟨ev2, h2, he2⟩ := jQ hG (g := 2) rfl
   refine (zmd ⟨s.toArray⟩ m w h0 (fun w' hb => zhq (hG.later (wU hb))) ev1 ev2 h1 he1 h2 he2).mono ?_
   rintro e w' ⟨rfl, hb⟩
   have he : (⟨s.toArray⟩ : ByteArray).data.toList = s := rfl
   rw [he]
   exact ⟨_, _, rfl, rfl, (zhr _).2, k9 hG (wU hb) (zhr _).1 (fun Z => zmi s _ Z)⟩
theorem w9 (n : Int) (h : inI n) : Spec Tryz.prog 91 [.int .i64 n] (fun r => r = .str (wI n)) := by
 refine Spec.of_awlS hf91 okf91 (by simp) fun S hS => ?_
 simp only [Qs, Nat.reduceBEq, uu f91.eq_1, vv f91r1.eq_1, uu f91b2.eq_1, vv f91r3.eq_1, uu f91b4.eq_1]
 refine zJ (w27 n h) ?_
 simp only [Qs, List.nodup_nil, Nat.reduceLeDiff]
 exact ⟨by have := nJ h; omega, hS⟩
theorem w11 (s : Txt) (hs : s.length ≤ 1000000000000) : Spec Tryz.prog 68 [.str s] (fun r => r = .str (wS s)) := by
 have h0 : inI (s.length : Int) := ⟨by omega, by omega⟩
 have h1 := jP h0
 refine Spec.of_awlS hf68 okf68 (by simp) fun S hS => ?_
 simp only [Qs, Nat.reduceBEq, uu f68.eq_1, vv f68r1.eq_1, uu f68b2.eq_1, vv f68r3.eq_1, uu f68b4.eq_1]
 refine zJ (w9 s.length h0) ?_
 have c : (wI s.length).length + s.length ≤ 9223372036854775807 := by omega
 simp only [c, Qs, List.nodup_nil, Nat.reduceBEq]
 exact hS
theorem jR {w : World} {Z : Bk → Prop} {a b : V} {vs : Array Value} (ha : uW w Z [a, b] vs.toList) : ∃ v1 v2, vs = #[v1, v2] ∧ zE w Z (fun _ => none) (fun _ => none) a v1 ∧ zE w Z (fun _ => none) (fun _ => none) b v2 := by
 obtain ⟨l⟩ := vs
 match l, ha with
 | [], ha => exact absurd ha.1 (by simp)
 | [_], ha => exact absurd ha.1 (by simp)
 | _ :: _ :: _ :: _, ha => exact absurd ha.1 (by simp)
 | [v1, v2], ha => exact ⟨v1, v2, rfl, (ha.2 0 _ v1 rfl rfl).2, (ha.2 1 _ v2 rfl rfl).2⟩
theorem w19 (s : Txt) (hs : s.length ≤ 1000000000000) : Spec Tryz.prog 90 [.str s] (fun r => r = wE (rS s)) := by
 refine Spec.of_awlS hf90 okf90 (by simp) fun S hS => ?_
 unfold rS at hS
 simp only [Qs, Nat.reduceBEq, uu f90.eq_1, vv f90r9.eq_1, uu f90b10.eq_1, vv f90r11.eq_1, uu f90b12.eq_1]
 refine zJ (w17 s) ?_ (hr := jO _)
 cases h : rI s with
 | none =>
   rw [h] at hS
   simp only [y4, Qs, List.append_nil, List.nodup_nil, Nat.reduceBEq, vv f90r3.eq_1, uu f90b4.eq_1, uu f90b5.eq_1, vv f90r6.eq_1, uu f90b7.eq_1, uu f90b8.eq_1]
   exact hS
 | some p =>
   obtain ⟨n, r⟩ := p
   have hr := zhn h
   rw [h] at hS
   simp only [Option.bind_some] at hS
   by_cases hn : n < 0
   · rw [if_pos (.inl hn)] at hS
     simp only [y4, hn, Qs, if_true, if_false, List.append_nil, List.nodup_nil, Nat.reduceBEq, vv f90r3.eq_1, uu f90b4.eq_1, uu f90b5.eq_1, vv f90r6.eq_1, uu f90b7.eq_1, uu f90b8.eq_1]
     exact hS
   · by_cases hl : n > r.length
     · rw [if_pos (.inr hl)] at hS
       simp only [y4, hn, hl, Qs, if_true, if_false, List.append_nil, List.nodup_nil, Nat.reduceBEq, vv f90r3.eq_1, uu f90b4.eq_1, uu f90b5.eq_1, vv f90r6.eq_1, uu f90b7.eq_1, uu f90b8.eq_1]
       exact hS
     · rw [if_neg (fun h => h.elim hn hl)] at hS
       have b1 : (0 : Int) ≤ n := by omega
       have b2 : n ≤ r.length := by omega
       simp only [y4, hn, hl, b1, b2, Qs, rJ, if_true, if_false, List.append_nil, List.nodup_nil, Nat.reduceBEq, Int.reduceLE, vv f90r1.eq_1, uu f90b2.eq_1, uu f90b5.eq_1, vv f90r6.eq_1, uu f90b7.eq_1, uu f90b8.eq_1]
       rw [List.take_length]
       exact ⟨Int.le_refl _, hS⟩
end Go.Abs
set_option maxRecDepth 100000
set_option maxHeartbeats 4000000
namespace Go.Proofs
open Go.Shelf Go.RowKit Go.Lib
theorem Tryz.bxg : Builder.Extra Tryz.prog Tryz.laysGrow_ren where
 sizeBuilder := by kernel_rfl
 liesBuilder := by kernel_rfl
 t5 := Tryz.underlying5
 a5 := Tryz.isAgg5
 z5 := Tryz.sizeOf5
 v5 := Tryz.zeroValue5
 infoByte := by kernel_rfl
 cellsByte := by kernel_rfl
 sizeByte := by kernel_rfl
 neB5 := by decide
theorem zmj (B b : Nat) (bs : List Value) (w : World) (h : Lib.IsBuilderF 92 5 B b bs w) :
   Calls Tryz.prog 82 #[.pointer (some ⟨b, 0, none⟩)] w fun e w' => e = .returned (.int .i64 bs.length) ∧ w' = w := Any.Builder_Len_f Tryz.laysLen B b bs w h
theorem jS (B b : Nat) (l : List UInt8) (w : World) (h : Lib.IsBuilderF 92 5 B b (Lib.byteCells l) w) (hBw : B ≤ w.heap.size) :
   Calls Tryz.prog 83 #[.pointer (some ⟨b, 0, none⟩)] w fun e w' => e = .returned (.string ⟨l.toArray⟩) ∧ Lib.IsBuilderF 92 5 B b (Lib.byteCells l) w' ∧ Below B w w' :=
 (Any.Builder_String_any_k Tryz.laysString Tryz.bx169 B b l w h hBw).mono fun _ _ h => ⟨h.1, h.2.1, h.2.2.1⟩
theorem zmk (B b n : Nat) (w : World) (hB : B ≤ b) (hbk : w.heap[b]? = some (.cells #[.pointer (some ⟨b, 0, none⟩), .slice none 0 0] 92 (0, 0))) (hBw : B ≤ w.heap.size) (hn : n ≤ 281474976710656) :
   Calls Tryz.prog 110 #[.pointer (some ⟨b, 0, none⟩), .int .i64 n] w fun e w' => e = .returned (.tuple #[]) ∧ (Lib.BuilderAt 92 5 B b (.pointer (some ⟨b, 0, none⟩)) [] w' ∧ Below B w w') := Any.Builder_grow_fresh Tryz.laysGrow Tryz.bxg B b n w hB hbk hBw hn
theorem zhs (B b n : Nat) (w : World) (hB : B ≤ b) (hbk : w.heap[b]? = some (.cells #[.pointer none, .slice none 0 0] 92 (0, 0))) (hBw : B ≤ w.heap.size) (hn : n ≤ 281474976710656) :
   Calls Tryz.prog 80 #[.pointer (some ⟨b, 0, none⟩), .int .i64 n] w fun e w' => e = .returned (.tuple #[]) ∧ (Lib.IsBuilderF 92 5 B b [] w' ∧ Below B w w') := by
 have hbk1 : (w.setCell ⟨b, 0, none⟩ (.pointer (some ⟨b, 0, none⟩))).heap[b]? = some (.cells #[.pointer (some ⟨b, 0, none⟩), .slice none 0 0] 92 (0, 0)) := by
   simp [World.setCell, Array.getElem?_modify, hbk]
 have c1 : (w.setCell ⟨b, 0, none⟩ (.pointer (some ⟨b, 0, none⟩))).cell? ⟨b, 1, none⟩ = some (.slice none 0 0) := by rw [Lib.cell_of_heap hbk1]; rfl
 have hb1 : Below B w (w.setCell ⟨b, 0, none⟩ (.pointer (some ⟨b, 0, none⟩))) := (Below.refl B w).setCell (p := ⟨b, 0, none⟩) hB _
 go_enter Tryz.func80, Tryz.ntmps80
 have hU : Lib.BuilderAt 92 5 B b (.pointer (some ⟨b, 0, none⟩)) [] (w.setCell ⟨b, 0, none⟩ (.pointer (some ⟨b, 0, none⟩))) := ⟨hB, .slice none 0 0, hbk1, World.ownsRow_nil _ _ _ _, by simp [Value.ownBlock]⟩
 have c1' : (w.setCell ⟨b, 0, none⟩ (.pointer (some ⟨b, 0, none⟩))).drew.cell? ⟨b, 1, none⟩ = some (.slice none 0 0) := c1
 go_wp2_with (go_at_call 109; refine (zhm b w (by rw [Lib.cell_of_heap hbk]; rfl) (by simp [World.shape?, hbk]) (Lib.frozen_of_heap hbk 0)).mono ?_; rintro e w' ⟨rfl, rfl⟩)
 go_region
 all_goals go_wp2_with (go_at_call 110; refine (zmk B b n (w.setCell ⟨b, 0, none⟩ (.pointer (some ⟨b, 0, none⟩))).drew hB hbk1 (by simpa [World.setCell, World.drew, -World.drew_eq] using hBw) hn).mono ?_; rintro e w' ⟨rfl, h1, h2⟩)
 all_goals first
   | (go_end0; exact ⟨rfl, .of (.inr h1), hb1.drew.trans h2⟩)
   | (go_end0; exact ⟨rfl, .of (.inr hU.drew), hb1.drew⟩)
end Go.Proofs
set_option maxRecDepth 100000
set_option maxHeartbeats 8000000
namespace Go.Abs
open Go.Proofs Go.Wire Go.RowKit
theorem w60 (n : Nat) (h : n ≤ 16) : Spec Tryz.prog 107 [.int .u64 1, .int .u64 n] (fun r => r = .tup [.int .u64 0, .int .u64 n]) := by
 have hc : n = 0 ∨ n = 1 ∨ n = 2 ∨ n = 3 ∨ n = 4 ∨ n = 5 ∨ n = 6 ∨ n = 7 ∨ n = 8 ∨ n = 9 ∨ n = 10 ∨ n = 11 ∨ n = 12 ∨ n = 13 ∨ n = 14 ∨ n = 15 ∨ n = 16 := by omega
 refine Spec.of_awlS hf107 okf107 (by simp) fun S hS => ?_
 simp only [Qs, zkC, zkD, if_true, List.append_nil, List.nodup_nil, Nat.reduceAdd, Nat.reduceBEq, Int.reduceLE, Int.reduceToNat, uu f107.eq_1, vv f107r1.eq_1, uu f107b2.eq_1, vv f107r3.eq_1, uu f107b4.eq_1, vv f107r5.eq_1, uu f107b6.eq_1, vv f107r7.eq_1, uu f107b8.eq_1, vv f107r9.eq_1, uu f107b10.eq_1, vv f107r11.eq_1, uu f107b12.eq_1, vv f107r13.eq_1, uu f107b14.eq_1, vv f107r15.eq_1, uu f107b16.eq_1, vv f107r17.eq_1, uu f107b18.eq_1, vv f107r19.eq_1, uu f107b20.eq_1, vv f107r21.eq_1, uu f107b22.eq_1, vv f107r23.eq_1, uu f107b24.eq_1]
 rcases hc with rfl | rfl | rfl | rfl | rfl | rfl | rfl | rfl | rfl | rfl | rfl | rfl | rfl | rfl | rfl | rfl | rfl <;> exact fin hS (by kernel_rfl)
theorem w51 (n : Nat) (h : n ≤ 16) : Spec Tryz.prog 78 [.int .u64 1, .int .u64 n] (fun r => r = .tup [.int .u64 0, .int .u64 n]) := by
 refine Spec.of_awlS hf78 okf78 (by simp) fun S hS => ?_
 simp only [Qs, Nat.reduceAdd, Nat.reduceBEq, zkB, uu f78.eq_1, vv f78r3.eq_1, uu f78b4.eq_1, uu f78b9.eq_1, uu f78b10.eq_1, vv f78r11.eq_1, uu f78b12.eq_1]
 refine zJ (w60 n h) ?_
 simp only [Qs, List.append_nil, List.nodup_nil, Nat.reduceBEq, vv f78r1.eq_1, uu f78b2.eq_1]
 exact hS
theorem w61 : Spec Tryz.prog 108 [.str (List.replicate 64 48), .str [48]] (fun r => r = .bool true) := by
 refine Spec.of_awlS hf108 okf108 (by simp) fun S hS => ?_
 simp only [Qs, kO, rL, if_true, BEq.rfl, List.nodup_nil, Nat.reduceAdd, Nat.reduceBEq, Int.reduceLE, Int.reduceGE, Int.reduceToNat, uu f108.eq_1, vv f108r1.eq_1, uu f108b2.eq_1, vv f108r3.eq_1, uu f108b4.eq_1]
 exact hS
theorem w52 : Spec Tryz.prog 79 [.str (List.replicate 64 48), .str [48]] (fun r => r = .bool true) := by
 refine Spec.of_awlS hf79 okf79 (by simp) fun S hS => ?_
 simp only [Qs, Nat.reduceAdd, Nat.reduceBEq, uu f79.eq_1, vv f79r1.eq_1, uu f79b2.eq_1, vv f79r3.eq_1, uu f79b4.eq_1]
 refine zJ w61 ?_
 simp only [Qs, List.nodup_nil]
 exact hS
mutual
def uS : V → Value
 | .k (.c (.int k n)) => .int k n
 | .k (.c (.bool b)) => .bool b
 | .k (.c (.str s)) => .string ⟨s.toArray⟩
 | .tup vs => .tuple (valsOf vs).toArray
 | _ => .nilFunc
def valsOf : List V → List Value
 | [] => []
 | v :: vs => uS v :: valsOf vs
end
mutual
theorem zht {w : World} {Z : Bk → Prop} {κ : Kap} {o : Nat → Option O} : ∀ (x : V) (v : Value), x.scalar = true → zE w Z κ o x v → v = uS x
 | .k (.c (.int k n)), v, _, h => wM h.2
 | .k (.c (.bool b)), v, _, h => by
   have h2 : PRep w Z (.bool b) v := h.2
   cases h2; rfl
 | .k (.c (.str s)), v, _, h => uO h.2
 | .tup vs, v, hs, ⟨us, e, hl, h⟩ => by
   obtain ⟨l⟩ := us
   rw [e, uS, valsOf_rep vs l hs hl h]
 | .k (.c (.list _ _ _)), _, hs, _ => by cases hs
 | .k (.c (.ro _ _)), _, hs, _ => by cases hs
 | .k (.c (.fn _ _)), _, hs, _ => by cases hs
 | .k (.c .nilf), _, hs, _ => by cases hs
 | .k (.c (.gl _)), _, hs, _ => by cases hs
 | .k (.own _), _, hs, _ => by cases hs
 | .k (.ptr _ _), _, hs, _ => by cases hs
 | .k (.elem _ _ _), _, hs, _ => by cases hs
 | .k (.pel _ _ _ _), _, hs, _ => by cases hs
 | .k (.fnk _ _), _, hs, _ => by cases hs
 | .k (.newl _ _ _ _), _, hs, _ => by cases hs
 | .k .dead, _, hs, _ => by cases hs
 | .agg _, _, hs, _ => by cases hs
 | .agk _, _, hs, _ => by cases hs
 | .undef, _, hs, _ => by cases hs
 | .any, _, hs, _ => by cases hs
theorem valsOf_rep {w : World} {Z : Bk → Prop} {κ : Kap} {o : Nat → Option O} : ∀ (xs : List V) (vs : List Value), V.scalarL xs = true → vs.length = xs.length → VRepL w Z κ o xs vs → vs = valsOf xs
 | [], [], _, _, _ => rfl
 | x :: xs, v :: vs, hs, hl, h => by
   simp only [V.scalarL, Bool.and_eq_true] at hs
   rw [valsOf, zht x v hs.1 h.1, valsOf_rep xs vs hs.2 (by simpa using hl) h.2]
 | [], _ :: _, _, hl, _ => by simp at hl
 | _ :: _, [], _, hl, _ => by simp at hl
end
def jT : V → Bool
 | .k (.c (.int _ _)) => true
 | .k (.c (.bool _)) => true
 | .k (.c (.str _)) => true
 | _ => false
theorem zml {w : World} {Z : Bk → Prop} {x : V} (h : jT x = true) : x.isPure = true ∧ zE w Z (fun _ => none) (fun _ => none) x (uS x) := by
 unfold jT at h
 split at h
 · exact ⟨rfl, rfl, .int _ _⟩
 · exact ⟨rfl, rfl, .bool _⟩
 · exact ⟨rfl, rfl, .str _⟩
 · cases h
theorem Spec.scal {P : Program} {f : FuncId} {xs : List V} {r : V} (h : Spec P f xs (fun r' => r' = r)) (hx : xs.all jT = true) (hr : r.scalar = true) {W : World} (hG : yP (base W)) :
   Calls P f (xs.map uS).toArray W fun e W' => e = .returned (uS r) ∧ Below W.heap.size W W' := by
 refine (h.2 W (fun b => b.2 < W.heap.size) (xs.map uS).toArray hG (fun _ h => h) ⟨by simp, fun j y u hy hu => ?_⟩).mono ?_
 · have hu' : (xs.map uS)[j]? = some u := by simpa using hu
   rw [List.getElem?_map, hy] at hu'
   cases hu'
   exact zml (List.all_eq_true.1 hx y (List.mem_of_getElem? hy))
 · rintro e w' ⟨v, r', rfl, rfl, _, hrep⟩
   obtain ⟨κ, hi⟩ := hrep 0
   have hreg : (V.reg 0 r').1 = r' := by
     revert hr
     exact regS r'
   refine ⟨?_, zhp hi.kept⟩
   have := hi.tmps 0
   simp only [if_pos] at this
   have e3 : (#[v] : Array Value).getD 0 undef = v := rfl
   rw [e3, hreg] at this
   rw [zht _ _ hr this]
where
 regS : ∀ x : V, x.scalar = true → (V.reg 0 x).1 = x
   | .k (.c _), _ => rfl
   | .tup vs, h => by rw [V.reg, regL vs h]
   | .k (.own _), h => by cases h
   | .k (.ptr _ _), h => by cases h
   | .k (.elem _ _ _), h => by cases h
   | .k (.pel _ _ _ _), h => by cases h
   | .k (.fnk _ _), h => by cases h
   | .k (.newl _ _ _ _), h => by cases h
   | .k .dead, h => by cases h
   | .agg _, h => by cases h
   | .agk _, h => by cases h
   | .undef, h => by cases h
   | .any, h => by cases h
 regL : ∀ xs : List V, V.scalarL xs = true → V.regL 0 xs = (xs, [])
   | [], _ => rfl
   | x :: xs, h => by
     simp only [V.scalarL, Bool.and_eq_true] at h
     have h1 := regB x h.1
     rw [V.regL, h1]
     simp only [List.length_nil, Nat.add_zero, regL xs h.2, List.append_nil]
 regB : ∀ x : V, x.scalar = true → V.reg 0 x = (x, [])
   | .k (.c _), _ => rfl
   | .tup vs, h => by rw [V.reg, regL vs h]
   | .k (.own _), h => by cases h
   | .k (.ptr _ _), h => by cases h
   | .k (.elem _ _ _), h => by cases h
   | .k (.pel _ _ _ _), h => by cases h
   | .k (.fnk _ _), h => by cases h
   | .k (.newl _ _ _ _), h => by cases h
   | .k .dead, h => by cases h
   | .agg _, h => by cases h
   | .agk _, h => by cases h
   | .undef, h => by cases h
   | .any, h => by cases h
theorem c51 {n : Nat} (hn : n ≤ 16) {W : World} (hG : yP (base W)) : Calls Tryz.prog 78 #[.int .u64 1, .int .u64 n] W fun e W' => e = .returned (.tuple #[.int .u64 0, .int .u64 n]) ∧ Below W.heap.size W W' := (w51 n hn).scal rfl rfl hG
theorem c52 {W : World} (hG : yP (base W)) : Calls Tryz.prog 79 #[.string ⟨(List.replicate 64 48).toArray⟩, .string ⟨#[48]⟩] W fun e W' => e = .returned (.bool true) ∧ Below W.heap.size W W' := w52.scal rfl rfl hG
theorem cw (B m k : Nat) (w : World) (hm : m ≤ k) (hk : k ≤ 16) (h : Go.Lib.IsBuilderF 92 5 B B (Go.Lib.byteCells (List.replicate k 0)) w) (hB : B ≤ w.heap.size) :
   Calls Tryz.prog 81 #[.pointer (some ⟨B, 0, none⟩), .string ((⟨Array.replicate k 0⟩ : ByteArray).extract 0 m)] w fun e w' => (∃ z : Int, e = .returned (.tuple #[.int .i64 z, .nilIface])) ∧ Go.Lib.IsBuilderF 92 5 B B (Go.Lib.byteCells (List.replicate (k + m) 0)) w' ∧ Below B w w' := by
 have e : (⟨Array.replicate k 0⟩ : ByteArray).extract 0 m = ⟨(List.replicate m 0).toArray⟩ := by
   apply ByteArray.ext
   apply Array.ext'
   rw [ByteArray.data_extract, Array.toList_extract, List.extract_eq_take_drop]
   simp
   omega
 rw [e]
 refine (jM B B _ ⟨(List.replicate m 0).toArray⟩ w h (by rw [Go.Lib.byteCells_length, List.length_replicate]; show k + (List.replicate m (0 : UInt8)).toArray.size ≤ _; simp; omega) hB).mono ?_
 rintro e w' ⟨rfl, h1, h2⟩
 refine ⟨⟨_, rfl⟩, ?_, h2⟩
 have e2 : Go.Lib.byteCells (List.replicate k 0) ++ Go.Lib.strCells ⟨(List.replicate m 0).toArray⟩ = Go.Lib.byteCells (List.replicate (k + m) 0) := by
   rw [← List.replicate_append_replicate, Go.Lib.byteCells_append]; rfl
 rw [← e2]; exact h1
theorem zmm (n : Nat) (hn : n ≤ 16) (w : World) (hG : yP (base w)) :
   Calls Tryz.prog 57 #[.string ⟨#[0]⟩, .int .i64 n] w fun e w' => e = .returned (.string ⟨(List.replicate n 0).toArray⟩) ∧ Below w.heap.size w w' := by
 by_cases h0 : n = 0
 · subst h0
   go_enter Tryz.func57, Tryz.ntmps57
   go_wp2
   go_ret
   exact ⟨rfl, Below.refl _ _⟩
 by_cases h1 : n = 1
 · subst h1
   go_enter Tryz.func57, Tryz.ntmps57
   go_wp2
   go_ret
   exact ⟨rfl, Below.refl _ _⟩
 have i0 : ¬ (n : Int) = 0 := by omega
 have i1 : ¬ (n : Int) = 1 := by omega
 have i2 : ¬ (n : Int) < 0 := by omega
 have i3 : ¬ (n : Int) > 9223372036854775807 := by omega
 have i4 : ¬ (n : Int) > 8192 := by omega
 have wu : IntKind.u64.wrap (n : Int) = n := by unfold IntKind.wrap; simp [IntKind.signed, IntKind.bits]; omega
 have wi : IntKind.i64.wrap (n : Int) = n := wrap_in (by omega) (by omega)
 go_enter Tryz.func57, Tryz.ntmps57
 go_wp2_with (go_at_call 78; refine (c51 hn hG).mono ?_; rintro e w1 ⟨rfl, hb1⟩)
 have hg1 : (w1.alloc (.cells #[.pointer none, .slice none 0 0] 92)).heap[w1.heap.size]? = some (.cells #[.pointer none, .slice none 0 0] 92 (0, 0)) := alloc_get w1 _
 have hb2 : Below w1.heap.size w1 (w1.alloc (.cells #[.pointer none, .slice none 0 0] 92)) := (Below.refl _ w1).alloc (Nat.le_refl _) _
 go_wp2_with (go_at_call 80; refine (zhs w1.heap.size w1.heap.size n _ (Nat.le_refl _) hg1 hb2.size (by omega)).mono ?_; rintro e w2 ⟨rfl, hI2, hb3⟩)
 have hb4 := hb2.trans hb3
 go_wp2_with (go_at_call 81; refine (jM w1.heap.size w1.heap.size [] ⟨#[0]⟩ _ hI2 (by decide) hb4.size).mono ?_; rintro e w3 ⟨rfl, hI3, hb5⟩)
 have hb6 := hb4.trans hb5
 have hI4 : Lib.IsBuilderF 92 5 w1.heap.size w1.heap.size (Lib.byteCells (List.replicate 1 0)) w3 := hI3
 go_wp2
 go_loopg [10] (n - 1) (fun g c wr => ∃ k : Nat, 1 ≤ k ∧ k ≤ n ∧ g = n - k ∧ Lib.IsBuilderF 92 5 w1.heap.size w1.heap.size (Lib.byteCells (List.replicate k 0)) wr ∧ Below w1.heap.size w1 wr)
 case atStart => exact ⟨1, Nat.le_refl _, by omega, rfl, hI4, hb6⟩
 case round =>
   obtain ⟨k, k1, k2, rfl, hI, hb⟩ := hrel
   have hl : (Lib.byteCells (List.replicate k 0)).length = k := by rw [Lib.byteCells_length, List.length_replicate]
   have hL := zmj w1.heap.size w1.heap.size _ wr hI
   rw [hl] at hL
   by_cases hlt : k < n
   · have hkn : (k : Int) < n := by omega
     have ws : IntKind.i64.wrap ((n : Int) - k) = (n : Int) - k := wrap_in (by omega) (by omega)
     have hsz : w1.heap.size ≤ wr.heap.size := hb.size
     go_wp2_with (first | (go_at_call 82; refine hL.mono ?_; rintro e w4 ⟨rfl, rfl⟩) | (go_at_call 83; refine (jS w1.heap.size w1.heap.size _ _ hI hsz).mono ?_; rintro e w5 ⟨rfl, hI5, hb7⟩))
     case inr =>
       refine (cw w1.heap.size (n - k) k _ (by omega) (by omega) hI5 (hb.trans hb7).size).mono ?_
       rintro e w6 ⟨⟨z, rfl⟩, hI6, hb8⟩
       clear hI5 hI hL hI4 hI2 hI3
       go_wp2
       go_roundg (n - (k + (n - k)))
       case rel => exact ⟨k + (n - k), by omega, by omega, rfl, hI6, hb.trans (hb7.trans hb8)⟩
       case measure => omega
     case inl =>
       refine (cw w1.heap.size k k _ (by omega) (by omega) hI5 (hb.trans hb7).size).mono ?_
       rintro e w6 ⟨⟨z, rfl⟩, hI6, hb8⟩
       clear hI5 hI hL hI4 hI2 hI3
       go_wp2
       go_roundg (n - (k + k))
       case rel => exact ⟨k + k, by omega, by omega, rfl, hI6, hb.trans (hb7.trans hb8)⟩
       case measure => omega
   · obtain rfl : k = n := by omega
     go_wp2_with (first | (go_at_call 82; refine hL.mono ?_; rintro e w4 ⟨rfl, rfl⟩) | (go_at_call 83; refine (jS w1.heap.size w1.heap.size _ _ hI hb.size).mono ?_; rintro e w5 ⟨rfl, hI5, hb7⟩))
     go_wp2
     go_ret
     exact ⟨rfl, hb1.trans ((hb.trans hb7).mono hb1.size)⟩
theorem zmn (s : Txt) (hs : s.take 1 ≠ [48]) (hl : s.length ≤ 1000000) : Spec Tryz.prog 108 [.str s, .str [48]] (fun r => r = .bool false) := by
 refine Spec.of_awlS hf108 okf108 (by simp) fun S hS => ?_
 by_cases h : (s.length : Int) ≥ 1
 · have e : (s.take 1 == [48]) = false := by simpa using hs
   have b1 : (1 : Int) ≤ s.length := h
   simp only [h, b1, e, List.length_cons, List.length_nil, Qs, kO, rL, if_true, List.nodup_nil, Nat.reduceAdd, Nat.reduceBEq, Int.reduceLE, Int.reduceToNat, uu f108.eq_1, vv f108r1.eq_1, uu f108b2.eq_1, vv f108r3.eq_1, uu f108b4.eq_1]
   simpa [e] using hS
 · simp only [h, List.length_cons, List.length_nil, Qs, kO, if_true, List.nodup_nil, Nat.reduceAdd, Nat.reduceBEq, uu f108.eq_1, vv f108r1.eq_1, uu f108b2.eq_1, vv f108r3.eq_1, uu f108b4.eq_1]
   exact hS
theorem zmo (s : Txt) (hs : s.take 1 ≠ [48]) (hl : s.length ≤ 1000000) : Spec Tryz.prog 79 [.str s, .str [48]] (fun r => r = .bool false) := by
 refine Spec.of_awlS hf79 okf79 (by simp) fun S hS => ?_
 simp only [Qs, Nat.reduceAdd, Nat.reduceBEq, uu f79.eq_1, vv f79r1.eq_1, uu f79b2.eq_1, vv f79r3.eq_1, uu f79b4.eq_1]
 refine zJ (zmn s hs hl) ?_
 simp only [Qs, List.nodup_nil]
 exact hS
theorem zmp (X : ByteArray) (hs : X.data.toList.take 1 ≠ [48]) (hl : X.data.toList.length ≤ 1000000) {W : World} (hG : yP (base W)) : Calls Tryz.prog 79 #[.string X, .string ⟨#[48]⟩] W fun e W' => e = .returned (.bool false) ∧ Below W.heap.size W W' := (zmo _ hs hl).scal rfl rfl hG
theorem zmq (w : World) (hG : yP (base w)) :
   Calls Tryz.prog 57 #[.string ⟨#[48]⟩, .int .i64 8] w fun e w' => e = .returned (.string ⟨(List.replicate 8 48).toArray⟩) ∧ Below w.heap.size w w' := by
 have hG1 : ∀ {w1}, Below w.heap.size w w1 → yP (base w1) := fun hb => hG.later (wU hb)
 have h1 : Calls Tryz.prog 78 #[.int .u64 1, .int .u64 8] w fun e W' => e = .returned (.tuple #[.int .u64 0, .int .u64 8]) ∧ Below w.heap.size w W' := c51 (n := 8) (by decide) hG
 have h2 : ∀ (X : ByteArray) (W : World), Below w.heap.size w W → X.data.toList.take 1 ≠ [48] → X.data.toList.length ≤ 1000000 → Calls Tryz.prog 79 #[.string X, .string ⟨#[48]⟩] W fun e W' => e = .returned (.bool false) ∧ Below w.heap.size w W' :=
   fun X W hb a b => (zmp X a b (hG1 hb)).mono fun e W' h => ⟨h.1, hb.trans (h.2.mono hb.size)⟩
 have h3 : ∀ (W : World), Below w.heap.size w W → Calls Tryz.prog 79 #[.string ⟨(List.replicate 64 48).toArray⟩, .string ⟨#[48]⟩] W fun e W' => e = .returned (.bool true) ∧ Below w.heap.size w W' :=
   fun W hb => (c52 (hG1 hb)).mono fun e W' h => ⟨h.1, hb.trans (h.2.mono hb.size)⟩
 go_enter Tryz.func57, Tryz.ntmps57
 go_wp2_with (first
   | (go_at_call 78; refine h1.mono ?_; rintro e w1 ⟨rfl, hb1⟩)
   | (go_at_call 79; refine (h2 _ _ (by assumption) (by decide) (by decide)).mono ?_; rintro e w2 ⟨rfl, hb2⟩)
   | (go_at_call 79; refine (h3 _ (by assumption)).mono ?_; rintro e w3 ⟨rfl, hb3⟩))
 go_wp2
 go_ret
 exact ⟨rfl, hb3⟩
end Go.Abs
set_option maxRecDepth 100000
set_option maxHeartbeats 8000000
namespace Go.Proofs
open Go.Shelf Go.RowKit Go.Lib
def cat (enc : Nat → List UInt8) : Nat → List UInt8
 | 0 => []
 | k + 1 => cat enc k ++ enc k
theorem nM (enc : Nat → List UInt8) : ∀ {k n : Nat}, k ≤ n → (cat enc k).length ≤ (cat enc n).length
 | k, 0, h => by
   obtain rfl : k = 0 := by omega
   exact Nat.le_refl _
 | k, n + 1, h => by
   by_cases hk : k = n + 1
   · rw [hk]; exact Nat.le_refl _
   · have := nM enc (k := k) (n := n) (by omega)
     rw [cat, List.length_append]; omega
theorem jU (B b : Nat) (l x : List UInt8) (w : World) (h : Lib.IsBuilderF 92 5 B b (Lib.byteCells l) w) (hlen : l.length + x.length ≤ 140737488355328) (hBw : B ≤ w.heap.size) :
   Calls Tryz.prog 81 #[.pointer (some ⟨b, 0, none⟩), .string ⟨x.toArray⟩] w fun e w' => e = .returned (.tuple #[.int .i64 x.length, .nilIface]) ∧ Lib.IsBuilderF 92 5 B b (Lib.byteCells (l ++ x)) w' ∧ Below B w w' := by
 have hsz : (⟨x.toArray⟩ : ByteArray).size = x.length := by show x.toArray.size = _; simp
 refine (jM B b (Lib.byteCells l) ⟨x.toArray⟩ w h (by rw [Lib.byteCells_length, hsz]; exact hlen) hBw).mono ?_
 rintro e w' ⟨rfl, h1, h2⟩
 exact ⟨by rw [hsz], by rw [Lib.byteCells_append]; exact h1, h2⟩
theorem zmr (n cap b o : Nat) (enc : Nat → List UInt8) (w : World) (hb0 : b < w.heap.size) (hp : ∀ k, k < n → w.cell? ⟨b, o + k, none⟩ = some (.string ⟨(enc k).toArray⟩)) (h2 : 2 ≤ n) (hn : n ≤ 1000000) (hcap : n ≤ cap) (hlen : (cat enc n).length ≤ 140737488355328) :
   Calls Tryz.prog 89 #[.slice (some ⟨b, o, none⟩) n cap, .string ⟨#[]⟩] w fun e w' => e = .returned (.string ⟨(cat enc n).toArray⟩) ∧ Below w.heap.size w w' := by
 have i0 : ¬ (n : Int) = 0 := by omega
 have i1 : ¬ (n : Int) = 1 := by omega
 go_enter Tryz.func89, Tryz.ntmps89
 go_wp2
 have i0b : ((n : Int) == 0) = false := by simpa using i0
 have i1b : ((n : Int) == 1) = false := by simpa using i1
 simp only [i0b, i1b]
 go_loopg [5, 41] n (fun g t i wr => wr = w ∧ ∃ k : Nat, k ≤ n ∧ g = n - k ∧ i = .int .i64 k ∧ t = .int .i64 (cat enc k).length)
 case atStart => exact ⟨rfl, 0, Nat.zero_le _, rfl, rfl, rfl⟩
 case round =>
   obtain ⟨rfl, k, hk, rfl, rfl, rfl⟩ := hrel
   by_cases hlt : k < n
   · have hc := hp k hlt
     have hkn : (k : Int) < n := by omega
     have hle := nM enc (k := k + 1) (n := n) (by omega)
     rw [cat, List.length_append] at hle
     have hwr : IntKind.i64.wrap ((k : Int) + 1) = ((k + 1 : Nat) : Int) := by unfold IntKind.wrap; simp [IntKind.signed, IntKind.bits]; omega
     have hsz : (⟨(enc k).toArray⟩ : ByteArray).size = (enc k).length := by show (enc k).toArray.size = _; simp
     have hw2 : IntKind.i64.wrap (9223372036854775807 - ((cat enc k).length : Int)) = 9223372036854775807 - ((cat enc k).length : Int) := Go.Abs.wrap_in (by omega) (by omega)
     have hw3 : IntKind.i64.wrap (((cat enc k).length : Int) + (enc k).length) = (((cat enc k).length : Int) + (enc k).length) := Go.Abs.wrap_in (by omega) (by omega)
     have hng : ¬ ((enc k).length : Int) > 9223372036854775807 - ((cat enc k).length : Int) := by omega
     go_wp2
     go_roundg (n - (k + 1))
     case measure => omega
     case rel =>
       refine ⟨rfl, k + 1, by omega, rfl, by go_num, ?_⟩
       rw [cat, List.length_append]; go_num
   · obtain rfl : k = n := by omega
     rename World => w0
     have c0 := hp 0 (by omega)
     rw [Nat.add_zero] at c0
     have hle1 := nM enc (k := 1) (n := k) (by omega)
     have e01 : cat enc 1 = enc 0 := rfl
     rw [e01] at hle1
     have hg1 : (w0.alloc (.cells #[.pointer none, .slice none 0 0] 92)).heap[w0.heap.size]? = some (.cells #[.pointer none, .slice none 0 0] 92 (0, 0)) := Go.Abs.alloc_get w0 _
     have hb2 : Below w0.heap.size w0 (w0.alloc (.cells #[.pointer none, .slice none 0 0] 92)) := (Below.refl _ w0).alloc (Nat.le_refl _) _
     have hb4of : ∀ w2, Below w0.heap.size (w0.alloc (.cells #[.pointer none, .slice none 0 0] 92)) w2 → w2.cell? ⟨b, o, none⟩ = some (.string ⟨(enc 0).toArray⟩) := fun w2 h => ((hb2.trans h).cell (p := ⟨b, o, none⟩) hb0).trans c0
     go_wp2_with (first | (go_at_call 80; refine (zhs w0.heap.size w0.heap.size (cat enc k).length _ (Nat.le_refl _) hg1 hb2.size (by omega)).mono ?_; rintro e w2 ⟨rfl, hI2, hb3⟩; have c0' := hb4of w2 hb3) | (go_at_call 81; refine (jU w0.heap.size w0.heap.size [] (enc 0) _ hI2 (by rw [List.length_nil]; omega) (hb2.trans hb3).size).mono ?_; rintro e w3 ⟨rfl, hI3, hb5⟩))
     have hb6 := (hb2.trans hb3).trans hb5
     go_loopg [65] (k - 1) (fun g i w0' => Below w0.heap.size w0 w0' ∧ ∃ j : Nat, j + 1 ≤ k ∧ g = k - 1 - j ∧ i = .int .i64 j ∧ Lib.IsBuilderF 92 5 w0.heap.size w0.heap.size (Lib.byteCells (cat enc (j + 1))) w0')
     case atStart => exact ⟨hb6, 0, by omega, rfl, rfl, hI3⟩
     case round =>
       obtain ⟨hbx, j, hj, rfl, rfl, hIx⟩ := hrel
       by_cases hlt2 : j + 1 < k
       · have hkn : (j : Int) < k - 1 := by omega
         have hkn2 : (j : Int) < ((k - 1 : Nat) : Int) := by omega
         have hkn3 : j < k - 1 := by omega
         have cj0 := hp (j + 1) hlt2
         rw [show o + (j + 1) = o + 1 + j by omega] at cj0
         have cj := (hbx.cell (p := ⟨b, o + 1 + j, none⟩) hb0).trans cj0
         have hwr : IntKind.i64.wrap ((j : Int) + 1) = ((j + 1 : Nat) : Int) := by unfold IntKind.wrap; simp [IntKind.signed, IntKind.bits]; omega
         have hle2 := nM enc (k := j + 1 + 1) (n := k) (by omega)
         rw [cat, List.length_append] at hle2
         go_wp2_with (first | (go_at_call 81; refine (jU w0.heap.size w0.heap.size (cat enc (j + 1)) (enc (j + 1)) _ hI5 (by omega) (hbx.trans hb7).size).mono ?_; rintro e w6 ⟨rfl, hI6, hb8⟩) | (go_at_call 81; refine (jU w0.heap.size w0.heap.size (cat enc (j + 1)) [] _ hIx (by simp only [List.length_nil]; omega) hbx.size).mono ?_; rintro e w5 ⟨rfl, hI5, hb7⟩; rw [List.append_nil] at hI5))
         go_roundg (k - 1 - (j + 1))
         case measure => omega
         case rel => exact ⟨(hbx.trans hb7).trans hb8, j + 1, by omega, rfl, by go_num, hI6⟩
       · obtain rfl : j + 1 = k := by omega
         have hge : ¬ (j : Int) < ((j + 1 : Nat) : Int) - 1 := by omega
         have hge2 : ¬ (j : Int) < ((j + 1 - 1 : Nat) : Int) := by omega
         go_wp2_with (go_at_call 83; refine (jS w0.heap.size w0.heap.size (cat enc (j + 1)) _ hIx hbx.size).mono ?_; rintro e w6 ⟨rfl, hI6, hb8⟩)
         go_ret
         exact ⟨rfl, hbx.trans hb8⟩
theorem zms (cap : Nat) (ao : Option Addr) (w : World) :
   Calls Tryz.prog 89 #[.slice ao 0 cap, .string ⟨#[]⟩] w fun e w' => e = .returned (.string ⟨#[]⟩) ∧ Below w.heap.size w w' := by
 go_enter Tryz.func89, Tryz.ntmps89
 go_wp2
 go_ret
 exact ⟨rfl, Below.refl _ _⟩
theorem zmt (cap b o : Nat) (s : ByteArray) (w : World) (hc : w.cell? ⟨b, o, none⟩ = some (.string s)) (hcap : 1 ≤ cap) :
   Calls Tryz.prog 89 #[.slice (some ⟨b, o, none⟩) 1 cap, .string ⟨#[]⟩] w fun e w' => e = .returned (.string s) ∧ Below w.heap.size w w' := by
 go_enter Tryz.func89, Tryz.ntmps89
 go_wp2
 go_ret
 exact ⟨rfl, Below.refl _ _⟩
theorem zhu : ∃ i, Tryz.prog.info? 52 = some i ∧ i.zero = some (.agg #[.int .i64 0, .string ⟨#[]⟩]) ∧ i.size = 2 ∧ i.bytes = 24 := info_parts (by kernel_rfl)
theorem zmu (b off n c : Nat) (news : List Value) (w : World) (hl : news.length = n * 2) (hn : n ≤ 512) (hc : ∀ j u, news[j]? = some u → w.cell? ⟨b, off + j, none⟩ = some u) (h1 : ∀ u ∈ news, u.oneCell' = true) :
   Calls Tryz.prog 38 #[.slice (some ⟨b, off, none⟩) n c] w fun e w' => ∃ v', e = .returned v' ∧ w'.ownsRow w.heap.size 52 2 v' n news ∧ Below w.heap.size w w' := by
 obtain ⟨i0, hi, hz0, hz1, hz2⟩ := zhu
 have A : Aside (∀ j u, news[j]? = some u → w.cell? ⟨b, off + j, none⟩ = some u) := hc
 clear hc
 have q24 : ∀ (w : World) (a : Option Addr) (n c n' c' : Nat), (binOp .eql 23 (.slice a n c) (.slice none n' c')).run Tryz.prog w = .ok (.bool a.isNone) w := fun w a n c n' c' => Lib.run_eql_slice_nil w _ _ a n c n' c' Tryz.underlying23
 go_enter Tryz.func38, Tryz.ntmps38
 go_wp2_with (at_builtin; refine wpList_append_own _ rfl _ _ 23 rfl w.heap.size 52 i0 (.agg #[.int .i64 0, .string ⟨#[]⟩]) 2 24 Tryz.underlying23 hi hz0 hz1 hz2 rfl (by decide) _ _ _ rfl (World.ownsRow_made w #[] 0 (Nat.le_refl _) (Nat.zero_le _) rfl) ⟨b, off, none⟩ n c news rfl hl ?qc2 h1 ?qc4 ?qc5 ?qc6 ?_)
 case qc2 =>
   intro j u hj
   rw [Addr.add_lit]
   exact Lib.cell?_alloc_some _ (A.out j u hj)
 case qc4 => unfold maxLen; omega
 case qc5 => omega
 case qc6 => simp
 intro v' w1 hown hgrow hnil
 go_wp2
 go_ret
 exact ⟨v', rfl, by simpa using hown, ((Below.refl _ w).alloc (Nat.le_refl _) _).grown hgrow (by simp) (by intro k hk; simp [Value.ownBlock] at hk; omega)⟩
theorem zmv (n c : Nat) (w : World) :
   Calls Tryz.prog 38 #[.slice none n c] w fun e w' => e = .returned (.slice none 0 0) ∧ w' = w := by
 have q24 : ∀ (w : World) (a : Option Addr) (n c n' c' : Nat), (binOp .eql 23 (.slice a n c) (.slice none n' c')).run Tryz.prog w = .ok (.bool a.isNone) w := fun w a n c n' c' => Lib.run_eql_slice_nil w _ _ a n c n' c' Tryz.underlying23
 go_enter Tryz.func38, Tryz.ntmps38
 go_wp2
 go_ret
 exact ⟨rfl, rfl⟩
theorem zmw (a : Addr) (c : Nat) (w : World) :
   Calls Tryz.prog 38 #[.slice (some a) 0 c] w fun e w' => ∃ v', e = .returned v' ∧ w'.ownsRow w.heap.size 52 2 v' 0 [] ∧ Below w.heap.size w w' := by
 obtain ⟨i0, hi, hz0, hz1, hz2⟩ := zhu
 have q24 : ∀ (w : World) (a : Option Addr) (n c n' c' : Nat), (binOp .eql 23 (.slice a n c) (.slice none n' c')).run Tryz.prog w = .ok (.bool a.isNone) w := fun w a n c n' c' => Lib.run_eql_slice_nil w _ _ a n c n' c' Tryz.underlying23
 go_enter Tryz.func38, Tryz.ntmps38
 go_wp2_with (at_builtin; refine wpList_append_own _ rfl _ _ 23 rfl w.heap.size 52 i0 (.agg #[.int .i64 0, .string ⟨#[]⟩]) 2 24 Tryz.underlying23 hi hz0 hz1 hz2 rfl (by decide) _ _ _ rfl (World.ownsRow_made w #[] 0 (Nat.le_refl _) (Nat.zero_le _) rfl) a 0 c [] rfl rfl (by intro j u hj; simp at hj) (by intro u hu; cases hu) (by unfold maxLen; omega) (by omega) (by simp) ?_)
 intro v' w1 hown hgrow hnil
 go_wp2
 go_ret
 exact ⟨v', rfl, by simpa using hown, ((Below.refl _ w).alloc (Nat.le_refl _) _).grown hgrow (by simp) (by intro k hk; simp [Value.ownBlock] at hk; omega)⟩
theorem zhv (p : Option Addr) (n c : Nat) (news : List Value) (w : World) (hl : news.length = n * 2) (hn : n ≤ 512) (hc : 0 < n → ∃ b off, p = some ⟨b, off, none⟩ ∧ ∀ j u, news[j]? = some u → w.cell? ⟨b, off + j, none⟩ = some u) (h1 : ∀ u ∈ news, u.oneCell' = true) :
   Calls Tryz.prog 38 #[.slice p n c] w fun e w' => ∃ v', e = .returned v' ∧ w'.ownsRow w.heap.size 52 2 v' n news ∧ Below w.heap.size w w' := by
 by_cases h0 : n = 0
 · subst h0
   obtain rfl : news = [] := List.eq_nil_of_length_eq_zero (by omega)
   cases p with
   | none => exact (zmv 0 c w).mono (by rintro e w' ⟨rfl, rfl⟩; exact ⟨_, rfl, ⟨rfl, .inl ⟨rfl, rfl⟩⟩, Below.refl _ _⟩)
   | some a => exact zmw a c w
 · obtain ⟨b, off, rfl, h⟩ := hc (by omega)
   exact zmu b off n c news w hl hn h h1
theorem rU (w : World) (A : Obj) : (w.alloc A).heap.size = w.heap.size + 1 := by
 show (w.heap.push A).size = _
 exact Array.size_push ..
theorem zmx (w : World) (A B : Obj) : ((w.alloc A).alloc B).heap[w.heap.size]? = some A := by
 have h := ((Below.refl (w.heap.size + 1) (w.alloc A)).alloc (Nat.le_of_eq (rU w A).symm) B).block w.heap.size (Nat.lt_succ_self _)
 rw [h]
 exact Go.Abs.alloc_get w A
theorem zhw (w : World) (A B : Obj) : ((w.alloc A).alloc B).heap[w.heap.size + 1]? = some B := by
 rw [← rU w A]; exact Go.Abs.alloc_get _ B
theorem zmy (w : World) (A B C : Obj) : (((w.alloc A).alloc B).alloc C).heap[w.heap.size + 2]? = some C := by
 rw [show w.heap.size + 2 = (w.heap.size + 1) + 1 from rfl, ← rU w A]; exact zhw (w.alloc A) B C
theorem zmz (b1 o1 n1 c1 : Nat) (ss : List Value) (p : Option Addr) (n2 c2 : Nat) (news : List Value) (l : Int) (bb : Bool) (w : World) (hn1 : n1 ≤ 512) (hl1 : ss.length = n1) (h11 : ∀ u ∈ ss, u.oneCell' = true) (h10 : 0 < n1) (hc1 : ∀ j u, ss[j]? = some u → w.cell? ⟨b1, o1 + j, none⟩ = some u)
   (hl : news.length = n2 * 2) (hn : n2 ≤ 512) (hc : 0 < n2 → ∃ b off, p = some ⟨b, off, none⟩ ∧ ∀ j u, news[j]? = some u → w.cell? ⟨b, off + j, none⟩ = some u) (h1 : ∀ u ∈ news, u.oneCell' = true) :
   Calls Tryz.prog 55 #[.agg #[.slice (some ⟨b1, o1, none⟩) n1 c1, .slice p n2 c2, .int .i64 l, .bool bb]] w fun e w' => ∃ g v', e = .returned (.agg #[.slice (some ⟨g, 0, none⟩) n1 n1, v', .int .i64 l, .bool bb]) ∧ w.heap.size ≤ g ∧ w'.heap[g]? = some (.cells ss.toArray 9 (0, 0)) ∧ (∃ B, w'.ownsRow B 52 2 v' n2 news ∧ g < B) ∧ Below w.heap.size w w' := by
 have b1lt : b1 < w.heap.size := by
   obtain ⟨u, hu⟩ : ∃ u, ss[0]? = some u := ⟨ss[0], by simp [hl1, h10]⟩
   have := hc1 0 u hu
   exact Nat.lt_of_not_le fun hge => by simp [World.cell?, Array.getElem?_eq_none hge] at this
 obtain ⟨zs, hzl, hmk⟩ : ∃ zs : List Value, zs.length = n1 ∧ ∀ w : World, (Instr.makeSlice 22 (.int .i64 (n1 : Int)) (.int .i64 (n1 : Int))).run Tryz.prog w = .ok (.slice (some ⟨w.heap.size, 0, none⟩) n1 n1) (w.alloc (.cells zs.toArray 9)) := by
   obtain ⟨i0, hi, hz0, hz1, hz2⟩ := info_parts (P := Tryz.prog) (e := 9) (z := .string ⟨#[]⟩) (size := 1) (bytes := 16) (by kernel_rfl)
   refine ⟨(madeCells (Value.string ⟨#[]⟩).cells n1).toList, by rw [Array.length_toList, size_madeCells], fun w => ?_⟩
   have h := run_makeSlice (P := Tryz.prog) (w := w) 22 9 i0 (.string ⟨#[]⟩) Tryz.underlying22 hi hz0 .i64 .i64 (n1 : Int) (n1 : Int) (by omega) (Int.le_refl _) (by rw [hz1]; simp; omega) (by rw [hz2]; omega) (by omega)
   rw [hz1] at h
   simpa using h
 go_enter Tryz.func55, Tryz.ntmps55
 obtain ⟨Wa, hWa⟩ : ∃ Wa, Wa = (w.alloc (Obj.cells #[Value.slice (some { block := b1, off := o1 }) n1 c1, Value.slice p n2 c2, .int .i64 l, .bool bb] 25)).alloc (Obj.cells #[Value.slice none 0 0, Value.slice none 0 0, Value.int IntKind.i64 0, Value.bool false] 25) := ⟨_, rfl⟩
 go_wp2_with ((refine wpList_copy_splice rfl (.tmp 8) (.tmp 10) 22 22 rfl 9 Tryz.underlying22 (by kernel_rfl) _ _ n1 n1 n1 c1 rfl rfl (w.heap.size + 2) 0 zs 9 ?hg ss ?hn ?hpos ?hfit h11 (w.heap.size + 2) Wa ?hb ?hBg ?_))
 case hg => exact zmy _ _ _ _
 case hn => rw [hl1]; exact (Nat.min_self n1).symm
 case hpos => intro j v hv; exact Lib.cell?_alloc_some _ (Lib.cell?_alloc_some _ (Lib.cell?_alloc_some _ (hc1 j v hv)))
 case hfit => omega
 case hb => subst hWa; exact (Below.refl _ _).alloc (by rw [rU, rU]; exact Nat.le_refl _) _
 case hBg => exact Nat.le_refl _
 intro w3 hg3 hb3
 have hg3 := hg3.out
 have hsp : splice zs 0 ss = ss := by
   unfold splice
   rw [Nat.zero_add, List.take_zero, List.nil_append, List.drop_eq_nil_of_le (by omega), List.append_nil]
 rw [hsp] at hg3
 have hba : Below w.heap.size w ((w.alloc (Obj.cells #[Value.slice (some { block := b1, off := o1 }) n1 c1, Value.slice p n2 c2, .int .i64 l, .bool bb] 25)).alloc (Obj.cells #[Value.slice none 0 0, Value.slice none 0 0, Value.int IntKind.i64 0, Value.bool false] 25)) := ((Below.refl _ w).alloc (Nat.le_refl _) _).alloc (by rw [rU]; omega) _
 have hs3 : w.heap.size + 3 ≤ w3.heap.size := by
   have := Go.Abs.heap_lt hg3
   omega
 have q0 : w3.heap[w.heap.size]? = some (.cells #[Value.slice (some { block := b1, off := o1 }) n1 c1, Value.slice p n2 c2, .int .i64 l, .bool bb] 25 (0, 0)) := (hb3.block _ (by omega)).trans (zmx _ _ _)
 have q1 : w3.heap[w.heap.size + 1]? = some (.cells #[Value.slice none 0 0, Value.slice none 0 0, Value.int IntKind.i64 0, Value.bool false] 25 (0, 0)) := (hb3.block _ (by omega)).trans (zhw _ _ _)
 have hbw : Below w.heap.size w w3 := hba.trans ⟨hb3.os, hb3.tape, hb3.output, hb3.size, fun k hk => hb3.block k (by omega)⟩
 have hc' : 0 < n2 → ∃ b off, p = some ⟨b, off, none⟩ ∧ ∀ j u, news[j]? = some u → w3.cell? ⟨b, off + j, none⟩ = some u := fun h => by
   obtain ⟨b, off, rfl, h⟩ := hc h
   refine ⟨b, off, rfl, fun j u hj => (hbw.cell (p := ⟨b, off + j, none⟩) ?_).trans (h j u hj)⟩
   have := h j u hj
   exact Nat.lt_of_not_le fun hge => by simp [World.cell?, Array.getElem?_eq_none hge] at this
 have k0 : w3.cell? ⟨w.heap.size, 0, none⟩ = some (Value.slice (some { block := b1, off := o1 }) n1 c1) := by rw [Lib.cell_of_heap q0]; rfl
 have k1 : w3.cell? ⟨w.heap.size, 1, none⟩ = some (Value.slice p n2 c2) := by rw [Lib.cell_of_heap q0]; rfl
 clear hc hc1 hb3
 have after : ∀ w4, Below w3.heap.size w3 w4 → w4.heap[w.heap.size]? = some (.cells #[Value.slice (some { block := b1, off := o1 }) n1 c1, Value.slice p n2 c2, .int .i64 l, .bool bb] 25 (0, 0)) ∧ w4.heap[w.heap.size + 1]? = some (.cells #[Value.slice none 0 0, Value.slice none 0 0, Value.int IntKind.i64 0, Value.bool false] 25 (0, 0)) ∧ w4.heap[w.heap.size + 2]? = some (.cells ss.toArray 9 (0, 0)) := fun w4 h4 => ⟨(h4.block _ (by omega)).trans q0, (h4.block _ (by omega)).trans q1, (h4.block _ (by omega)).trans hg3⟩
 go_wp2_with (go_at_call 38; refine (zhv p n2 c2 news w3 hl hn hc' h1).mono ?_; rintro e w4 ⟨v', rfl, hown, hb4⟩; obtain ⟨r0, r1, r2⟩ := after w4 hb4; have d0 : w4.cell? ⟨w.heap.size, 0, none⟩ = some (Value.slice (some { block := b1, off := o1 }) n1 c1) := (by rw [Lib.cell_of_heap r0]; rfl); have d1 : w4.cell? ⟨w.heap.size, 1, none⟩ = some (Value.slice p n2 c2) := (by rw [Lib.cell_of_heap r0]; rfl); have d2 : w4.cell? ⟨w.heap.size, 2, none⟩ = some (.int .i64 l) := (by rw [Lib.cell_of_heap r0]; rfl); have d3 : w4.cell? ⟨w.heap.size, 3, none⟩ = some (.bool bb) := (by rw [Lib.cell_of_heap r0]; rfl); have e0 : w4.cell? ⟨w.heap.size + 1, 0, none⟩ = some (Value.slice none 0 0) := (by rw [Lib.cell_of_heap r1]; rfl); have e1 : w4.cell? ⟨w.heap.size + 1, 1, none⟩ = some (Value.slice none 0 0) := (by rw [Lib.cell_of_heap r1]; rfl); have e2 : w4.cell? ⟨w.heap.size + 1, 2, none⟩ = some (Value.int .i64 0) := (by rw [Lib.cell_of_heap r1]; rfl); have e3 : w4.cell? ⟨w.heap.size + 1, 3, none⟩ = some (Value.bool false) := (by rw [Lib.cell_of_heap r1]; rfl); have f0 := Lib.frozen_of_heap r0; have f1 := Lib.frozen_of_heap r1; obtain ⟨ao, n', cap', rfl⟩ : ∃ ao n' cap', v' = .slice ao n' cap' := (by rcases hown.2 with ⟨hv, _⟩ | ⟨g, cap, cur, hv, _⟩ <;> exact ⟨_, _, _, hv⟩))
 have hoth : ∀ k, k ≠ w.heap.size → k ≠ w.heap.size + 1 → ((((((w4.setCell { block := w.heap.size, off := 0 } (Value.slice (some { block := w.heap.size + 1 + 1, off := 0 }) n1 n1)).setCell { block := w.heap.size, off := 1 } (Value.slice ao n' cap')).setCell { block := w.heap.size + 1, off := 0 } (Value.slice (some { block := w.heap.size + 1 + 1, off := 0 }) n1 n1)).setCell { block := w.heap.size + 1, off := 1 } (Value.slice ao n' cap')).setCell { block := w.heap.size + 1, off := 2 } (Value.int IntKind.i64 l)).setCell { block := w.heap.size + 1, off := 3 } (Value.bool bb)).heap[k]? = w4.heap[k]? := by
   intro k h1 h2
   simp [World.setCell, Array.getElem?_modify, Ne.symm h1, Ne.symm h2]
 have hres : ((((((w4.setCell { block := w.heap.size, off := 0 } (Value.slice (some { block := w.heap.size + 1 + 1, off := 0 }) n1 n1)).setCell { block := w.heap.size, off := 1 } (Value.slice ao n' cap')).setCell { block := w.heap.size + 1, off := 0 } (Value.slice (some { block := w.heap.size + 1 + 1, off := 0 }) n1 n1)).setCell { block := w.heap.size + 1, off := 1 } (Value.slice ao n' cap')).setCell { block := w.heap.size + 1, off := 2 } (Value.int IntKind.i64 l)).setCell { block := w.heap.size + 1, off := 3 } (Value.bool bb)).heap[w.heap.size + 1]? = some (.cells #[Value.slice (some { block := w.heap.size + 1 + 1, off := 0 }) n1 n1, Value.slice ao n' cap', .int .i64 l, .bool bb] 25 (0, 0)) := by
   simp [World.setCell, Array.getElem?_modify, r1]
 have hbf : Below w.heap.size w ((((((w4.setCell { block := w.heap.size, off := 0 } (Value.slice (some { block := w.heap.size + 1 + 1, off := 0 }) n1 n1)).setCell { block := w.heap.size, off := 1 } (Value.slice ao n' cap')).setCell { block := w.heap.size + 1, off := 0 } (Value.slice (some { block := w.heap.size + 1 + 1, off := 0 }) n1 n1)).setCell { block := w.heap.size + 1, off := 1 } (Value.slice ao n' cap')).setCell { block := w.heap.size + 1, off := 2 } (Value.int IntKind.i64 l)).setCell { block := w.heap.size + 1, off := 3 } (Value.bool bb)) :=
   ((((((hbw.trans (hb4.mono hbw.size)).setCell (Nat.le_refl _) _).setCell (Nat.le_refl _) _).setCell (Nat.le_succ _) _).setCell (Nat.le_succ _) _).setCell (Nat.le_succ _) _).setCell (Nat.le_succ _) _
 generalize ((((((w4.setCell { block := w.heap.size, off := 0 } (Value.slice (some { block := w.heap.size + 1 + 1, off := 0 }) n1 n1)).setCell { block := w.heap.size, off := 1 } (Value.slice ao n' cap')).setCell { block := w.heap.size + 1, off := 0 } (Value.slice (some { block := w.heap.size + 1 + 1, off := 0 }) n1 n1)).setCell { block := w.heap.size + 1, off := 1 } (Value.slice ao n' cap')).setCell { block := w.heap.size + 1, off := 2 } (Value.int IntKind.i64 l)).setCell { block := w.heap.size + 1, off := 3 } (Value.bool bb)) = W5 at hoth hres hbf ⊢
 refine bodyPost_ret (results_cell_row rfl _ _ (w.heap.size + 1) 25 _ (0, 0) _ rfl hres Tryz.underlying25 rfl (by kernel_rfl)) rfl ?_
 have hown5 : W5.ownsRow w3.heap.size 52 2 (.slice ao n' cap') n2 news := by
   refine ⟨hown.1, hown.2.imp id ?_⟩
   rintro ⟨g, cap, cur, hv, hg, hh, hr⟩
   exact ⟨g, cap, cur, hv, hg, (hoth g (by omega) (by omega)).trans hh, hr⟩
 exact ⟨w.heap.size + 2, .slice ao n' cap', rfl, by omega, (hoth _ (by omega) (by omega)).trans r2, ⟨_, hown5, hs3⟩, hbf⟩
end Go.Proofs
set_option maxRecDepth 10000
namespace Go.Jr
open Go.Wire
structure Wr where
 pos : Int
 text : Txt
 deriving Inhabited, DecidableEq
structure Disk where
 secs : List Txt
 pend : List Wr
 left : Int
 down : Bool
 deriving Inhabited, DecidableEq
def y5 : Disk := ⟨[], [], 0, false⟩
def yM (n : Nat) : Txt := List.replicate n 0
def yT (n : Nat) : Disk := ⟨List.replicate n (yM 16), [], -1, false⟩
structure Right (d : Disk) : Prop where
 lo : 1 ≤ d.secs.length
 hi : d.secs.length ≤ 512
 pe : d.pend.length ≤ 512
 l0 : -1 ≤ d.left
 l1 : d.left ≤ 512
 dn : d.down = true → d.pend = [] ∧ d.left = -1
 se : ∀ s ∈ d.secs, s.length = 16
 wr : ∀ w ∈ d.pend, 0 ≤ w.pos ∧ w.pos < d.secs.length ∧ w.text.length = 16
def x8 (d : Disk) (i : Int) (s : Txt) : Disk × Int :=
 if d.down = true then (y5, 8)
 else if i < 0 ∨ i ≥ d.secs.length ∨ s.length > 16 then (y5, 1)
 else if d.pend.length ≥ 512 then (y5, 6)
 else (⟨d.secs, d.pend ++ [⟨i, s ++ yM (16 - s.length)⟩], d.left, d.down⟩, 0)
def zN (l : List Txt) : List Wr → List Txt
 | [] => l
 | w :: r => zN (l.set w.pos.toNat w.text) r
def flushD (d : Disk) : Disk × Int :=
 if d.down = true then (y5, 8)
 else if 0 ≤ d.left ∧ d.left < d.pend.length then
   (⟨(zN d.secs (d.pend.take d.left.toNat)).set (d.pend.getD d.left.toNat default).pos.toNat ((d.pend.getD d.left.toNat default).text.take 8 ++ ((zN d.secs (d.pend.take d.left.toNat)).getD (d.pend.getD d.left.toNat default).pos.toNat []).drop 8), [], -1, true⟩, 8)
 else (⟨zN d.secs d.pend, [], if 0 ≤ d.left then d.left - d.pend.length else -1, false⟩, 0)
def nN (d : Disk) (k : Int) : Disk × Int :=
 if d.down = true then (y5, 8) else if k < 0 ∨ k > 512 then (y5, 1) else (⟨d.secs, d.pend, k, d.down⟩, 0)
def startD (d : Disk) : Disk × Int := if d.down = true then (⟨d.secs, d.pend, d.left, false⟩, 0) else (y5, 7)
def dig : Nat → Nat → Txt
 | 0, _ => []
 | k + 1, n => dig k (n / 10) ++ [UInt8.ofNat (48 + n % 10)]
def hdr (n : Nat) : Txt := dig 8 n ++ dig 8 n
def xA (c : UInt8) : Bool := decide (48 ≤ c.toNat ∧ c.toNat ≤ 57)
def xL (l : Txt) : Nat := l.foldl (fun a c => a * 10 + (c.toNat - 48)) 0
def yF (s : Txt) : Option Nat := if s.take 8 = s.drop 8 ∧ (s.take 8).all xA = true then some (xL (s.take 8)) else none
def yV (d : Disk) : Int := if d.down = true then 8 else if d.pend = [] then 0 else 7
def logD (d : Disk) : Txt := (d.secs.drop 2).flatten
def xS (a b : Option Nat) : Option (Int × Nat) := match a, b with
 | none, none => none
 | some n, none => some (0, n)
 | none, some m => some (1, m)
 | some n, some m => if m > n then some (1, m) else some (0, n)
def pz : Nat → Txt → Option (List Txt)
 | _, [] => some []
 | 0, _ :: _ => none
 | k + 1, c :: t => (rS (c :: t)).bind fun p => if p.1.length > 2000 then none else (pz k p.2).map (p.1 :: ·)
structure Con where
 list : List Txt
 bytes : Txt
 cur : Int
 deriving Inhabited, DecidableEq
def readJ (d : Disk) : Con × Int :=
 if yV d ≠ 0 then (⟨[], [], 0⟩, yV d)
 else if d.secs.length ≤ 2 then (⟨[], [], 0⟩, 22)
 else match xS (yF (d.secs.getD 0 [])) (yF (d.secs.getD 1 [])) with
   | none => (⟨[], [], 0⟩, 22)
   | some (c, n) => if n > (logD d).length then (⟨[], [], 0⟩, 22) else
     match pz n ((logD d).take n) with
     | none => (⟨[], [], 0⟩, 22)
     | some l => if l.length > 500 then (⟨[], [], 0⟩, 22) else (⟨l, (logD d).take n, c⟩, 0)
def formatJ (d : Disk) : Disk × Int :=
 if yV d ≠ 0 then (y5, yV d)
 else if d.secs.length ≤ 2 then (y5, 6)
 else flushD (x8 (x8 d 0 (hdr 0)).1 1 (hdr 0)).1
def xB (all : Txt) : Nat → Nat → Disk → Disk
 | 0, _, d => d
 | k + 1, i, d => if 16 * i < all.length then xB all k (i + 1) (x8 d (2 + i) ((all.drop (16 * i)).take 16)).1 else d
def appendJ (d : Disk) (s : Txt) : Disk × Int :=
 if (readJ d).2 ≠ 0 then (y5, (readJ d).2)
 else if s.length > 2000 then (y5, 1)
 else if (readJ d).1.list.length = 500 ∨ ((readJ d).1.bytes ++ wS s).length > (d.secs.length - 2) * 16 then (y5, 6)
 else
   let x := flushD (xB ((readJ d).1.bytes ++ wS s) ((readJ d).1.bytes ++ wS s).length ((readJ d).1.bytes.length / 16) d)
   if x.2 ≠ 0 then x else flushD (x8 x.1 (1 - (readJ d).1.cur) (hdr ((readJ d).1.bytes ++ wS s).length)).1
theorem wF : ∀ (k n : Nat), (dig k n).length = k
 | 0, _ => rfl
 | k + 1, n => by rw [dig, List.length_append, wF k]; rfl
theorem x9 (n : Nat) : (hdr n).length = 16 := by rw [hdr, List.length_append, wF]
theorem zhx : ∀ (k n : Nat), (dig k n).all xA = true
 | 0, _ => rfl
 | k + 1, n => by
   rw [dig, List.all_append, zhx k]
   have h : n % 10 < 10 := by omega
   have e : (UInt8.ofNat (48 + n % 10)).toNat = 48 + n % 10 := tH h
   simp only [List.all_cons, List.all_nil, Bool.and_true, Bool.true_and, xA, e, decide_eq_true_eq]
   omega
theorem jV : ∀ (k n : Nat), xL (dig k n) = n % 10 ^ k
 | 0, n => by simp [dig, xL]; omega
 | k + 1, n => by
   have ih := jV k (n / 10)
   have h : n % 10 < 10 := by omega
   have e : (UInt8.ofNat (48 + n % 10)).toNat = 48 + n % 10 := tH h
   unfold xL at ih ⊢
   rw [dig, List.foldl_append, ih, List.foldl_cons, List.foldl_nil, e, Nat.pow_succ, Nat.mul_comm (10 ^ k) 10, Nat.mod_mul]
   omega
theorem zmA {n : Nat} (h : n < 100000000) : yF (hdr n) = some n := by
 have h1 : (hdr n).take 8 = dig 8 n := by rw [hdr]; exact List.take_left' (wF 8 n)
 have h2 : (hdr n).drop 8 = dig 8 n := by rw [hdr]; exact List.drop_left' (wF 8 n)
 rw [yF, h1, h2, if_pos ⟨rfl, zhx 8 n⟩, jV, Nat.mod_eq_of_lt (by omega)]
def wV (secs : List Txt) (c : Txt) : Prop := ∀ j, 16 * j < c.length → ∃ r, secs.getD (2 + j) [] = (c.drop (16 * j)).take 16 ++ r
theorem zhy : ∀ (L : List Txt) (c : Txt), (∀ s ∈ L, s.length = 16) → (∀ j, 16 * j < c.length → ∃ r, L.getD j [] = (c.drop (16 * j)).take 16 ++ r) → c.length ≤ 16 * L.length → L.flatten.take c.length = c
 | [], c, _, _, h => by
   have : c = [] := List.length_eq_zero_iff.1 (by simpa using h)
   subst this; rfl
 | s :: L, c, hs, hc, h => by
   have h16 := hs s (by simp)
   by_cases h0 : c = []
   · subst h0; rfl
   have hpos : 0 < c.length := List.length_pos_iff.2 h0
   obtain ⟨r, hr⟩ := hc 0 (by omega)
   simp only [List.getD_cons_zero, Nat.mul_zero, List.drop_zero] at hr
   by_cases hle : c.length ≤ 16
   · rw [List.take_of_length_le hle] at hr
     rw [List.flatten_cons, hr, List.append_assoc]
     exact List.take_left' rfl
   · have h2 : r = [] := by
       have := congrArg List.length hr
       rw [h16, List.length_append, List.length_take] at this
       exact List.length_eq_zero_iff.1 (by omega)
     rw [h2, List.append_nil] at hr
     have ih := zhy L (c.drop 16) (fun x hx => hs x (by simp [hx])) (fun j hj => by
       rw [List.length_drop] at hj
       obtain ⟨r, hr⟩ := hc (j + 1) (by omega)
       refine ⟨r, ?_⟩
       rw [List.drop_drop, show 16 + 16 * j = 16 * (j + 1) by omega]
       simpa using hr) (by rw [List.length_drop]; simp only [List.length_cons] at h; omega)
     rw [List.flatten_cons, List.take_append, List.take_of_length_le (by omega), h16]
     rw [List.length_drop] at ih
     rw [ih, hr, List.take_append_drop]
theorem zmB {secs : List Txt} {c : Txt} (hs : ∀ s ∈ secs, s.length = 16) (h : wV secs c) (hl : c.length ≤ 16 * (secs.length - 2)) : ((secs.drop 2).flatten).take c.length = c := by
 refine zhy (secs.drop 2) c (fun s hx => hs s (List.mem_of_mem_drop hx)) (fun j hj => ?_) (by rw [List.length_drop]; exact hl)
 obtain ⟨r, hr⟩ := h j hj
 refine ⟨r, ?_⟩
 rw [← hr]
 simp [List.getD_eq_getElem?_getD]
theorem zmC {secs : List Txt} (hs : ∀ s ∈ secs, s.length = 16) : ((secs.drop 2).flatten).length = 16 * (secs.length - 2) := by
 have key : ∀ L : List Txt, (∀ s ∈ L, s.length = 16) → L.flatten.length = 16 * L.length := by
   intro L
   induction L with
   | nil => intro _; rfl
   | cons s L ih =>
     intro h
     rw [List.flatten_cons, List.length_append, ih (fun x hx => h x (by simp [hx])), h s (by simp), List.length_cons]
     omega
 rw [key _ (fun s hx => hs s (List.mem_of_mem_drop hx)), List.length_drop]
theorem jW {s : Txt} (h : s.length ≤ 2000) : okS s := by unfold okS; omega
theorem zhz : ∀ (l : List Txt) (k : Nat), (∀ s ∈ l, s.length ≤ 2000) → (wN wS l).length ≤ k → pz k (wN wS l) = some l
 | [], k, _, _ => by cases k <;> rfl
 | s :: l, k, h, hk => by
   have hs := h s (by simp)
   have e : wN wS (s :: l) = wS s ++ wN wS l := by simp [wN]
   have h2 := nK (jW hs)
   rw [e, List.length_append] at hk
   obtain ⟨c, t, hct⟩ : ∃ c t, wS s ++ wN wS l = c :: t := by
     cases hx : wS s ++ wN wS l with
     | nil =>
       have := congrArg List.length hx
       rw [List.length_append, List.length_nil] at this
       omega
     | cons c t => exact ⟨c, t, rfl⟩
   obtain ⟨k', rfl⟩ : ∃ k', k = k' + 1 := ⟨k - 1, by omega⟩
   rw [e, hct, pz, ← hct, q8.back (jW hs)]
   simp only [Option.bind_some]
   rw [if_neg (by omega), zhz l k' (fun x hx => h x (by simp [hx])) (by omega)]
   rfl
theorem q9 {α : Type} (w : α → Txt) (a b : List α) : wN w (a ++ b) = wN w a ++ wN w b := by simp [wN]
theorem nO {α : Type} (w : α → Txt) (a : α) : wN w [a] = w a := by simp [wN]
structure Inv (d : Disk) (l : List Txt) (c : Nat) : Prop where
 right : Right d
 up : d.down = false
 pe : d.pend = []
 n3 : 3 ≤ d.secs.length
 len : l.length ≤ 500
 each : ∀ s ∈ l, s.length ≤ 2000
 fit : (wN wS l).length ≤ 16 * (d.secs.length - 2)
 holds : wV d.secs (wN wS l)
 c01 : c = 0 ∨ c = 1
 hd : d.secs.getD c [] = hdr (wN wS l).length
 ot : ∃ x m, x.length = 8 ∧ d.secs.getD (1 - c) [] = x ++ dig 8 m ∧ m ≤ (wN wS l).length ∧ (c = 1 → m < (wN wS l).length)
theorem Inv.small {d : Disk} {l : List Txt} {c : Nat} (h : Inv d l c) : (wN wS l).length ≤ 8160 := by
 have := h.fit
 have := h.right.hi
 omega
theorem zmD {x : Txt} {m k : Nat} (hx : x.length = 8) (hm : m < 100000000) (h : yF (x ++ dig 8 m) = some k) : k = m := by
 have h1 : (x ++ dig 8 m).take 8 = x := List.take_left' hx
 have h2 : (x ++ dig 8 m).drop 8 = dig 8 m := List.drop_left' hx
 rw [yF, h1, h2] at h
 split at h
 · rename_i hc
   rw [hc.1, jV, Nat.mod_eq_of_lt (by omega)] at h
   cases h; rfl
 · cases h
theorem Inv.cur {d : Disk} {l : List Txt} {c : Nat} (h : Inv d l c) : xS (yF (d.secs.getD 0 [])) (yF (d.secs.getD 1 [])) = some ((c : Int), (wN wS l).length) := by
 have hs := h.small
 have hn := zmA (n := (wN wS l).length) (by omega)
 obtain ⟨x, m0, hx, hso, hm0, hm1⟩ := h.ot
 have ho : ∀ m, yF (d.secs.getD (1 - c) []) = some m → m ≤ (wN wS l).length ∧ (c = 1 → m < (wN wS l).length) := by
   intro m hm
   rw [hso] at hm
   obtain rfl := zmD hx (by omega) hm
   exact ⟨hm0, hm1⟩
 have hd := h.hd
 rcases h.c01 with rfl | rfl
 · rw [hd, hn]
   cases hm : yF (d.secs.getD 1 []) with
   | none => rfl
   | some m =>
     have := (ho m hm).1
     simp only [xS]
     rw [if_neg (by omega)]; rfl
 · rw [hd, hn]
   cases hm : yF (d.secs.getD 0 []) with
   | none => rfl
   | some m =>
     have := (ho m hm).2 rfl
     simp only [xS]
     rw [if_pos (by omega)]; rfl
theorem Inv.ready {d : Disk} {l : List Txt} {c : Nat} (h : Inv d l c) : yV d = 0 := by simp [yV, h.up, h.pe]
theorem Inv.read {d : Disk} {l : List Txt} {c : Nat} (h : Inv d l c) : readJ d = (⟨l, wN wS l, c⟩, 0) := by
 have h3 := h.n3
 have h1 := zmB h.right.se h.holds h.fit
 have h2 := zmC h.right.se
 have h4 := h.fit
 have h5 := h.len
 unfold readJ
 rw [if_neg (by simp [h.ready]), if_neg (by omega), h.cur]
 simp only []
 rw [if_neg (by unfold logD; omega), show logD d = (d.secs.drop 2).flatten from rfl, h1, zhz l _ h.each (Nat.le_refl _)]
 simp only []
 rw [if_neg (by omega)]
def pad (s : Txt) : Txt := s ++ yM (16 - s.length)
theorem vM {s : Txt} (h : s.length ≤ 16) : (pad s).length = 16 := by rw [pad, List.length_append, yM, List.length_replicate]; omega
theorem xO {d : Disk} {i : Int} {s : Txt} (hu : d.down = false) (h0 : 0 ≤ i) (h1 : i < d.secs.length) (hs : s.length ≤ 16) (hp : d.pend.length < 512) :
   x8 d i s = (⟨d.secs, d.pend ++ [⟨i, pad s⟩], d.left, false⟩, 0) := by
 rw [x8, if_neg (by simp [hu]), if_neg (by omega), if_neg (by omega), hu]; rfl
theorem uD : ∀ (ws : List Wr) (l : List Txt), (zN l ws).length = l.length
 | [], l => rfl
 | w :: r, l => by rw [zN, uD r, List.length_set]
theorem rV : ∀ (ws : List Wr) (l : List Txt), (∀ s ∈ l, s.length = 16) → (∀ w ∈ ws, w.text.length = 16) → ∀ s ∈ zN l ws, s.length = 16
 | [], l, h, _ => h
 | w :: r, l, h, hw => by
   refine rV r _ (fun s hs => ?_) fun x hx => hw x (by simp [hx])
   rcases List.mem_or_eq_of_mem_set hs with h1 | h1
   · exact h s h1
   · rw [h1]; exact hw w (by simp)
theorem rW {l : List Txt} {i : Nat} {t : Txt} (h : ∀ s ∈ l, s.length = 16) (ht : t.length = 16) : ∀ s ∈ l.set i t, s.length = 16 := by
 intro s hs
 rcases List.mem_or_eq_of_mem_set hs with h1 | h1
 · exact h s h1
 · rw [h1]; exact ht
theorem zhA {l : List Txt} {i : Nat} (h : ∀ s ∈ l, s.length = 16) (hi : i < l.length) : (l.getD i []).length = 16 := by
 have : l.getD i [] = l[i] := by simp [hi]
 rw [this]; exact h _ (List.getElem_mem hi)
theorem wG {l : List Txt} {i j : Nat} {t : Txt} (hi : i < l.length) : (l.set i t).getD j [] = if j = i then t else l.getD j [] := by
 by_cases h : j = i
 · subst h; simp [hi]
 · rw [if_neg h]
   simp only [List.getD_eq_getElem?_getD, List.getElem?_set]
   rw [if_neg (fun e => h e.symm)]
def wH (all : Txt) (j : Nat) : Txt := (all.drop (16 * j)).take 16
theorem zhB (all : Txt) (j : Nat) : (wH all j).length ≤ 16 := by rw [wH, List.length_take]; omega
def wsJ (all : Txt) : Nat → Nat → List Wr
 | 0, _ => []
 | k + 1, i => if 16 * i < all.length then ⟨((2 + i : Nat) : Int), pad (wH all i)⟩ :: wsJ all k (i + 1) else []
theorem jX (all : Txt) : ∀ (k i : Nat), (wsJ all k i) = [] ∨ 16 * (i + (wsJ all k i).length) < all.length + 16
 | 0, _ => .inl rfl
 | k + 1, i => by
   rw [wsJ]
   split
   · rename_i h
     right
     rcases jX all k (i + 1) with h1 | h1
     · rw [h1]; simp only [List.length_cons, List.length_nil]; omega
     · simp only [List.length_cons]; omega
   · exact .inl rfl
theorem zhC (all : Txt) : ∀ (k i : Nat), all.length ≤ 16 * (i + k) → all.length ≤ 16 * (i + (wsJ all k i).length)
 | 0, i, h => by simpa [wsJ] using h
 | k + 1, i, h => by
   rw [wsJ]
   split
   · have := zhC all k (i + 1) (by omega)
     simp only [List.length_cons]; omega
   · simp only [List.length_nil]; omega
theorem jY (all : Txt) : ∀ (k i : Nat), ∀ w ∈ wsJ all k i, w.text.length = 16
 | 0, _, w, h => by simp [wsJ] at h
 | k + 1, i, w, h => by
   rw [wsJ] at h
   split at h
   · rcases List.mem_cons.1 h with rfl | h
     · exact vM (zhB _ _)
     · exact jY all k (i + 1) w h
   · cases h
theorem zhD (all : Txt) : ∀ (k i m : Nat), m < (wsJ all k i).length → (wsJ all k i).getD m default = ⟨((2 + i + m : Nat) : Int), pad (wH all (i + m))⟩
 | 0, _, m, h => by simp [wsJ] at h
 | k + 1, i, m, h => by
   rw [wsJ] at h ⊢
   split at h
   · rename_i hc
     rw [if_pos hc]
     cases m with
     | zero => rfl
     | succ m =>
       have := zhD all k (i + 1) m (by simpa using h)
       rw [List.getD_cons_succ, this, show 2 + (i + 1) + m = 2 + i + (m + 1) by omega, show i + 1 + m = i + (m + 1) by omega]
   · cases h
theorem nP (all : Txt) : ∀ (k i m : Nat) (l : List Txt), all.length ≤ 16 * (l.length - 2) → ∀ idx, (zN l ((wsJ all k i).take m)).getD idx [] = if 2 + i ≤ idx ∧ idx < 2 + i + ((wsJ all k i).take m).length then pad (wH all (idx - 2)) else l.getD idx []
 | 0, i, m, l, _, idx => by
   simp only [wsJ, List.take_nil, zN, List.length_nil]
   rw [if_neg (by omega)]
 | k + 1, i, 0, l, _, idx => by
   have e : ((wsJ all (k + 1) i).take 0) = [] := rfl
   rw [e]
   simp only [zN, List.length_nil]
   rw [if_neg (by omega)]
 | k + 1, i, m + 1, l, hl, idx => by
   rw [wsJ]
   split
   · rename_i hc
     have hi : 2 + i < l.length := by omega
     rw [List.take_succ_cons, zN, nP all k (i + 1) m _ (by rw [List.length_set]; exact hl) idx]
     simp only [Int.toNat_natCast, List.length_cons]
     rw [wG hi]
     by_cases h1 : idx = 2 + i
     · rw [if_neg (by omega), if_pos h1, if_pos (by omega), h1, Nat.add_sub_cancel_left]
     · rw [if_neg h1]
       by_cases h2 : 2 + (i + 1) ≤ idx ∧ idx < 2 + (i + 1) + (List.take m (wsJ all k (i + 1))).length
       · rw [if_pos h2, if_pos (by omega)]
       · rw [if_neg h2, if_neg (by omega)]
   · simp only [List.take_nil, zN, List.length_nil]
     rw [if_neg (by omega)]
theorem zhE (all : Txt) : ∀ (k i : Nat) (d : Disk), d.down = false → all.length ≤ 16 * (d.secs.length - 2) → d.secs.length ≤ 512 → d.pend.length ≤ i →
   xB all k i d = ⟨d.secs, d.pend ++ wsJ all k i, d.left, false⟩
 | 0, i, d, hu, _, _, _ => by rw [xB, wsJ, List.append_nil, ← hu]
 | k + 1, i, d, hu, hl, h5, hp => by
   rw [xB, wsJ]
   split
   · rename_i hc
     have hw := xO (i := (2 : Int) + i) (s := (all.drop (16 * i)).take 16) hu (by omega) (by omega) (by rw [List.length_take]; omega) (by omega)
     have ih := zhE all k (i + 1) ⟨d.secs, d.pend ++ [⟨(2 : Int) + i, pad ((all.drop (16 * i)).take 16)⟩], d.left, false⟩ rfl hl h5 (by simp only [List.length_append, List.length_singleton]; omega)
     rw [hw]
     refine ih.trans ?_
     simp only [List.append_assoc, List.singleton_append]
     rfl
   · rw [List.append_nil, ← hu]
theorem zmE {a b c x y : Txt} (ha : a = c ++ x) (hb : b = c ++ y) : ∃ z, a.take 8 ++ b.drop 8 = c ++ z := by
 by_cases h : c.length ≤ 8
 · refine ⟨x.take (8 - c.length) ++ b.drop 8, ?_⟩
   rw [ha, List.take_append, List.take_of_length_le h, List.append_assoc]
 · refine ⟨y, ?_⟩
   rw [ha, hb, List.take_append_of_le_length (by omega), List.drop_append_of_le_length (by omega), ← List.append_assoc, List.take_append_drop]
theorem zmF (code x : Txt) (j : Nat) : ∃ z, pad (wH (code ++ x) j) = wH code j ++ z := by
 unfold pad wH
 by_cases h : 16 * j ≤ code.length
 · rw [List.drop_append_of_le_length h, List.take_append]
   exact ⟨_, by rw [List.append_assoc]⟩
 · rw [List.drop_eq_nil_of_le (show code.length ≤ 16 * j by omega), List.take_nil]
   exact ⟨_, by rw [List.nil_append]⟩
theorem zmG (code x : Txt) {j : Nat} (h : 16 * j + 16 ≤ code.length) : wH (code ++ x) j = wH code j := by
 unfold wH
 rw [List.drop_append_of_le_length (by omega), List.take_append_of_le_length (by rw [List.length_drop]; omega)]
theorem zhF {secs : List Txt} {code x : Txt} (h : wV secs code) (hl : (code ++ x).length ≤ 16 * (secs.length - 2)) :
   wV (zN secs (wsJ (code ++ x) (code ++ x).length (code.length / 16))) (code ++ x) := by
 intro j hj
 have hg := zhC (code ++ x) (code ++ x).length (code.length / 16) (by omega)
 have hp := nP (code ++ x) (code ++ x).length (code.length / 16) (wsJ (code ++ x) (code ++ x).length (code.length / 16)).length secs hl (2 + j)
 rw [List.take_length] at hp
 rw [hp]
 by_cases h1 : code.length / 16 ≤ j
 · rw [if_pos (by omega), Nat.add_sub_cancel_left]
   exact ⟨_, rfl⟩
 · rw [if_neg (by omega)]
   have := zmG code x (j := j) (by omega)
   unfold wH at this
   rw [this]
   exact h j (by omega)
theorem zmH {secs : List Txt} {code x : Txt} (h : wV secs code) (hl : (code ++ x).length ≤ 16 * (secs.length - 2)) {m : Nat} (hm : m < (wsJ (code ++ x) (code ++ x).length (code.length / 16)).length) :
   wV ((zN secs ((wsJ (code ++ x) (code ++ x).length (code.length / 16)).take m)).set (2 + code.length / 16 + m) ((pad (wH (code ++ x) (code.length / 16 + m))).take 8 ++ ((zN secs ((wsJ (code ++ x) (code ++ x).length (code.length / 16)).take m)).getD (2 + code.length / 16 + m) []).drop 8)) code := by
 intro j hj
 have hp := nP (code ++ x) (code ++ x).length (code.length / 16) m secs hl
 have hlt := (jX (code ++ x) (code ++ x).length (code.length / 16)).resolve_left (by intro e; rw [e] at hm; cases hm)
 have htl : ((wsJ (code ++ x) (code ++ x).length (code.length / 16)).take m).length = m := by rw [List.length_take]; omega
 have hidx : 2 + code.length / 16 + m < (zN secs ((wsJ (code ++ x) (code ++ x).length (code.length / 16)).take m)).length := by rw [uD]; omega
 rw [wG hidx, hp (2 + j), hp (2 + code.length / 16 + m), htl, if_neg (show ¬ (2 + code.length / 16 ≤ 2 + code.length / 16 + m ∧ 2 + code.length / 16 + m < 2 + code.length / 16 + m) by omega)]
 obtain ⟨r, hr⟩ := h j hj
 obtain ⟨z, hz⟩ := zmF code x j
 by_cases h1 : 2 + j = 2 + code.length / 16 + m
 · rw [if_pos h1, ← h1, hr, show code.length / 16 + m = j by omega]
   exact zmE hz rfl
 · rw [if_neg h1]
   by_cases h2 : 2 + code.length / 16 ≤ 2 + j ∧ 2 + j < 2 + code.length / 16 + m
   · rw [if_pos h2, Nat.add_sub_cancel_left]
     exact ⟨z, hz⟩
   · rw [if_neg h2]
     exact ⟨r, hr⟩
theorem pA {d : Disk} (hu : d.down = false) (hk : ¬ (0 ≤ d.left ∧ d.left < d.pend.length)) : flushD d = (⟨zN d.secs d.pend, [], if 0 ≤ d.left then d.left - d.pend.length else -1, false⟩, 0) := by
 rw [flushD, if_neg (by simp [hu]), if_neg hk]
theorem jZ {d : Disk} (hu : d.down = false) (hk : 0 ≤ d.left ∧ d.left < d.pend.length) :
   flushD d = (⟨(zN d.secs (d.pend.take d.left.toNat)).set (d.pend.getD d.left.toNat default).pos.toNat ((d.pend.getD d.left.toNat default).text.take 8 ++ ((zN d.secs (d.pend.take d.left.toNat)).getD (d.pend.getD d.left.toNat default).pos.toNat []).drop 8), [], -1, true⟩, 8) := by
 rw [flushD, if_neg (by simp [hu]), if_pos hk]
theorem rX (n : Nat) : pad (hdr n) = hdr n := by
 rw [pad, x9]; simp [yM]
theorem zhG {secs : List Txt} {c : Txt} {i : Nat} {t : Txt} (h : wV secs c) (hi : i < 2) (hl : i < secs.length) : wV (secs.set i t) c := by
 intro j hj
 rw [wG hl, if_neg (by omega)]
 exact h j hj
theorem zmI {secs : List Txt} {c x : Txt} (h : wV secs (c ++ x)) : wV secs c := by
 intro j hj
 obtain ⟨r, hr⟩ := h j (by rw [List.length_append]; omega)
 rw [hr, List.drop_append_of_le_length (by omega), List.take_append]
 exact ⟨_, by rw [List.append_assoc]⟩
theorem zmJ (secs : List Txt) : wV secs [] := fun j hj => absurd hj (by simp)
def yW (l : List Txt) (s : Txt) : List Wr := wsJ (wN wS l ++ wS s) (wN wS l ++ wS s).length ((wN wS l).length / 16)
section
variable {d : Disk} {l : List Txt} {c : Nat} {s : Txt}
theorem nQ (hf : (wN wS l ++ wS s).length ≤ 16 * (d.secs.length - 2)) {m i : Nat} (hi : i < 2) : (zN d.secs ((yW l s).take m)).getD i [] = d.secs.getD i [] := by
 rw [yW, nP _ _ _ m _ hf i, if_neg (by omega)]
theorem zhH (h : Inv d l c) (hs : s.length ≤ 2000) (hl : l.length < 500) (hf : (wN wS l ++ wS s).length ≤ 16 * (d.secs.length - 2)) :
   appendJ d s = if (flushD ⟨d.secs, yW l s, d.left, false⟩).2 ≠ 0 then flushD ⟨d.secs, yW l s, d.left, false⟩
     else flushD (x8 (flushD ⟨d.secs, yW l s, d.left, false⟩).1 (1 - (c : Int)) (hdr (wN wS l ++ wS s).length)).1 := by
 have hp := zhE (wN wS l ++ wS s) (wN wS l ++ wS s).length ((wN wS l).length / 16) d h.up hf h.right.hi (by rw [h.pe]; simp)
 rw [h.pe, List.nil_append] at hp
 unfold appendJ
 rw [h.read]
 simp only [ne_eq, not_true_eq_false, if_false]
 rw [if_neg (by omega), if_neg (by omega), hp]
 rfl
theorem pB (l : List Txt) (s : Txt) : wN wS (l ++ [s]) = wN wS l ++ wS s := by rw [q9, nO]
theorem nR (h : Inv d l c) (hs : s.length ≤ 2000) (hl : l.length < 500) (hf : (wN wS l ++ wS s).length ≤ 16 * (d.secs.length - 2)) (hk : d.left = -1 ∨ ((yW l s).length : Int) + 1 ≤ d.left) :
   ∃ d', appendJ d s = (d', 0) ∧ Inv d' (l ++ [s]) (1 - c) ∧ d'.secs.length = d.secs.length ∧ (d.left = -1 → d'.left = -1) ∧ d'.secs.getD c [] = hdr (wN wS l).length := by
 have h3 := h.n3
 have hcc : c < 2 := by rcases h.c01 with rfl | rfl <;> omega
 have hw := pA (d := ⟨d.secs, yW l s, d.left, false⟩) rfl (by simp only []; omega)
 have h2 := nK (jW hs)
 rw [zhH h hs hl hf, hw]
 simp only [ne_eq, not_true_eq_false, if_false]
 have hpl : (zN d.secs (yW l s)).length = d.secs.length := uD _ _
 have hci : (1 : Int) - (c : Int) = ((1 - c : Nat) : Int) := by omega
 rw [xO (s := hdr (wN wS l ++ wS s).length) rfl (by omega) (by simp only [hpl]; omega) (by rw [x9]; omega) (by simp), rX]
 simp only [List.nil_append]
 rw [pA rfl (by simp only [List.length_singleton]; split <;> omega)]
 simp only [zN, hci, Int.toNat_natCast]
 have hhold := zhF h.holds hf
 have hse := rV (yW l s) d.secs h.right.se (jY _ _ _)
 have hlow : ∀ i, i < 2 → (zN d.secs (yW l s)).getD i [] = d.secs.getD i [] := by
   intro i hi
   have := nQ (d := d) (l := l) (s := s) hf (m := (yW l s).length) hi
   rwa [List.take_length] at this
 have hi1 : 1 - c < (zN d.secs (yW l s)).length := by omega
 have hr := h.right
 refine ⟨_, rfl, ?_, by simp [hpl], by intro e; simp [e], ?_⟩
 · refine ⟨⟨by simp only [List.length_set, hpl]; exact hr.lo, by simp only [List.length_set, hpl]; exact hr.hi, by simp, ?_, ?_, by simp, rW hse (x9 _), by simp⟩, rfl, rfl, by simp only [List.length_set, hpl]; exact h3, by simp; omega, ?_, ?_, ?_, by omega, ?_, ?_⟩
   · simp only [List.length_singleton]; split <;> (try split) <;> omega
   · have := hr.l1
     simp only [List.length_singleton]; split <;> (try split) <;> omega
   · intro x hx
     rcases List.mem_append.1 hx with hx | hx
     · exact h.each x hx
     · rw [List.mem_singleton.1 hx]; exact hs
   · simp only [List.length_set, hpl, pB]; exact hf
   · rw [pB]
     exact zhG hhold (by omega) hi1
   · simp only [pB]
     rw [wG hi1, if_pos rfl]
   · refine ⟨dig 8 (wN wS l).length, (wN wS l).length, wF _ _, ?_, ?_, ?_⟩
     · simp only []
       rw [wG hi1, if_neg (by omega), show 1 - (1 - c) = c by omega, hlow c hcc, h.hd]; rfl
     · rw [pB, List.length_append]; omega
     · intro _; rw [pB, List.length_append]; omega
 · simp only []
   rw [wG hi1, if_neg (by omega), hlow c hcc, h.hd]
theorem zmK (h : Inv d l c) (hs : s.length ≤ 2000) (hl : l.length < 500) (hf : (wN wS l ++ wS s).length ≤ 16 * (d.secs.length - 2)) (h0 : 0 ≤ d.left) (h1 : d.left ≤ (yW l s).length) :
   ∃ secs, appendJ d s = (⟨secs, [], -1, true⟩, 8) ∧ Inv ⟨secs, [], -1, false⟩ l c ∧ secs.length = d.secs.length := by
 have h3 := h.n3
 have hcc : c < 2 := by rcases h.c01 with rfl | rfl <;> omega
 have hr := h.right
 have hci : (1 : Int) - (c : Int) = ((1 - c : Nat) : Int) := by omega
 have hse : ∀ m, ∀ s' ∈ zN d.secs ((yW l s).take m), s'.length = 16 := fun m => rV _ d.secs hr.se fun w hw => jY _ _ _ w (List.mem_of_mem_take hw)
 have hpl : ∀ W, (zN d.secs W).length = d.secs.length := fun W => uD _ _
 obtain ⟨x, m0, hx, hso, hm0, hm1⟩ := h.ot
 have mk : ∀ secs : List Txt, secs.length = d.secs.length → (∀ s' ∈ secs, s'.length = 16) → wV secs (wN wS l) → secs.getD c [] = d.secs.getD c [] → (∃ y, y.length = 8 ∧ secs.getD (1 - c) [] = y ++ dig 8 m0) → Inv ⟨secs, [], -1, false⟩ l c := by
   rintro secs g1 g2 g3 g4 ⟨y, g5, g6⟩
   refine ⟨⟨by simp only [g1]; exact hr.lo, by simp only [g1]; exact hr.hi, by simp, by simp, by simp, by simp, g2, by simp⟩, rfl, rfl, by simp only [g1]; exact h3, h.len, h.each, by simp only [g1]; exact h.fit, g3, h.c01, by rw [g4]; exact h.hd, y, m0, g5, g6, hm0, hm1⟩
 rw [zhH h hs hl hf]
 by_cases hlt : d.left < (yW l s).length
 · have hk : d.left.toNat < (yW l s).length := by omega
   rw [jZ (d := ⟨d.secs, yW l s, d.left, false⟩) rfl ⟨h0, hlt⟩]
   simp only [ne_eq]
   rw [if_pos (by decide)]
   have hg : (yW l s).getD d.left.toNat default = _ := zhD (wN wS l ++ wS s) (wN wS l ++ wS s).length ((wN wS l).length / 16) d.left.toNat hk
   rw [hg]
   simp only [Int.toNat_natCast]
   have hlt2 := (jX (wN wS l ++ wS s) (wN wS l ++ wS s).length ((wN wS l).length / 16)).resolve_left (by intro e; unfold yW at hk; rw [e] at hk; cases hk)
   unfold yW at hk
   have hi : 2 + (wN wS l).length / 16 + d.left.toNat < d.secs.length := by omega
   refine ⟨_, rfl, mk _ (by rw [List.length_set, hpl]) ?_ (zmH h.holds hf hk) ?_ ⟨x, hx, ?_⟩, by rw [List.length_set, hpl]⟩
   · refine rW (hse _) ?_
     have e1 := vM (zhB (wN wS l ++ wS s) ((wN wS l).length / 16 + d.left.toNat))
     have e2 := zhA (i := 2 + (wN wS l).length / 16 + d.left.toNat) (hse d.left.toNat) (by rw [hpl]; exact hi)
     rw [List.length_append, List.length_take, List.length_drop, e1, e2]; rfl
   · rw [wG (by rw [hpl]; exact hi), if_neg (by omega)]
     exact nQ hf hcc
   · rw [wG (by rw [hpl]; exact hi), if_neg (by omega)]
     exact (nQ hf (by omega)).trans hso
 · have hw := pA (d := ⟨d.secs, yW l s, d.left, false⟩) rfl (by simp only []; omega)
   rw [hw]
   simp only [ne_eq, not_true_eq_false, if_false]
   rw [xO (s := hdr (wN wS l ++ wS s).length) rfl (by omega) (by simp only [hpl]; omega) (by rw [x9]; omega) (by simp), rX]
   simp only [List.nil_append]
   have hl0 : (if 0 ≤ d.left then d.left - ((yW l s).length : Int) else -1) = 0 := by rw [if_pos h0]; omega
   rw [hl0, jZ rfl (by simp)]
   simp only [Int.toNat_zero, List.take_zero, zN, List.getD_cons_zero, hci, Int.toNat_natCast]
   have hlow : ∀ i, i < 2 → (zN d.secs (yW l s)).getD i [] = d.secs.getD i [] := by
     intro i hi
     have := nQ (d := d) (l := l) (s := s) hf (m := (yW l s).length) hi
     rwa [List.take_length] at this
   have hsa := hse (yW l s).length
   rw [List.take_length] at hsa
   have hi1 : 1 - c < (zN d.secs (yW l s)).length := by rw [hpl]; omega
   have e8 : (hdr (wN wS l ++ wS s).length).take 8 = dig 8 (wN wS l ++ wS s).length := by rw [hdr]; exact List.take_left' (wF _ _)
   have d8 : ((zN d.secs (yW l s)).getD (1 - c) []).drop 8 = dig 8 m0 := by rw [hlow _ (by omega), hso]; exact List.drop_left' hx
   rw [e8, d8]
   refine ⟨_, rfl, mk _ (by rw [List.length_set, hpl]) ?_ (zhG (zmI (zhF h.holds hf)) (by omega) hi1) ?_ ⟨dig 8 (wN wS l ++ wS s).length, wF _ _, ?_⟩, by rw [List.length_set, hpl]⟩
   · exact rW hsa (by rw [List.length_append, wF, wF])
   · rw [wG hi1, if_neg (by omega)]
     exact hlow c hcc
   · rw [wG hi1, if_pos rfl]
end
theorem zmL {n : Nat} (h : 3 ≤ n) (hn : n ≤ 512) : ∃ d, formatJ (yT n) = (d, 0) ∧ Inv d [] 0 ∧ d.secs.length = n ∧ d.left = -1 ∧ d.secs.getD 1 [] = hdr 0 := by
 have hl : (yT n).secs.length = n := by simp [yT]
 have hr : yV (yT n) = 0 := rfl
 have hz : ∀ s ∈ (yT n).secs, s.length = 16 := by
   intro s hs
   simp only [yT, List.mem_replicate] at hs
   rw [hs.2, yM, List.length_replicate]
 unfold formatJ
 rw [if_neg (by simp [hr]), if_neg (by omega)]
 rw [xO (d := yT n) (i := 0) (s := hdr 0) rfl (by omega) (by omega) (by rw [x9]; omega) (by simp [yT])]
 simp only []
 rw [xO (s := hdr 0) rfl (by omega) (by simp only [hl]; omega) (by rw [x9]; omega) (by simp [yT])]
 simp only [rX]
 rw [pA rfl (by simp [yT])]
 have e : zN (yT n).secs ((yT n).pend ++ [⟨0, hdr 0⟩] ++ [⟨1, hdr 0⟩]) = ((yT n).secs.set 0 (hdr 0)).set 1 (hdr 0) := rfl
 rw [e]
 have hl2 : (((yT n).secs.set 0 (hdr 0)).set 1 (hdr 0)).length = n := by rw [List.length_set, List.length_set, hl]
 have g1 : (((yT n).secs.set 0 (hdr 0)).set 1 (hdr 0)).getD 1 [] = hdr 0 := by rw [wG (by rw [List.length_set, hl]; omega), if_pos rfl]
 have g0 : (((yT n).secs.set 0 (hdr 0)).set 1 (hdr 0)).getD 0 [] = hdr 0 := by rw [wG (by rw [List.length_set, hl]; omega), if_neg (by omega), wG (by omega), if_pos rfl]
 refine ⟨_, rfl, ⟨⟨by simp only [hl2]; omega, by simp only [hl2]; omega, by simp, by simp [yT], by simp [yT], by simp, rW (rW hz (x9 _)) (x9 _), by simp⟩, rfl, rfl, by simp only [hl2]; omega, by simp, by simp, by simp [wN], zmJ _, .inl rfl, g0, dig 8 0, 0, wF _ _, g1, by simp, by simp⟩, hl2, by simp [yT], g1⟩
end Go.Jr
set_option maxRecDepth 100000
set_option maxHeartbeats 4000000
namespace Go.Abs
open Go.Proofs Go.Wire Go.RowKit Go.Jr
theorem zhI {n τ : Nat} {a b x : O} (h : zM n [a, b] τ = some x) : (τ = n ∧ x = a) ∨ (τ = n + 1 ∧ x = b) := by
 unfold zM at h
 split at h
 · rename_i hle
   obtain ⟨k, rfl⟩ : ∃ k, τ = n + k := ⟨τ - n, by omega⟩
   rw [Nat.add_sub_cancel_left] at h
   match k, h with
   | 0, h => simp at h; exact .inl ⟨rfl, h.symm⟩
   | 1, h => simp at h; exact .inr ⟨rfl, h.symm⟩
   | k + 2, h => simp at h
 · cases h
theorem j0 {n τ : Nat} {a b : O} (h : zM n [a, b] τ ≠ none) : τ = n ∨ τ = n + 1 := by
 cases e : zM n [a, b] τ with
 | none => exact absurd e h
 | some x => exact (zhI e).imp And.left And.left
theorem zmM {n : Nat} {a b : O} : zM n [a, b] n = some a := by simp [zM]
theorem zmN {n : Nat} {a b : O} : zM n [a, b] (n + 1) = some b := by simp [zM]
structure Row (w w' : World) (e sz : Nat) (rows : List (List C)) (g : Nat) (cap : Nat) : Prop where
 fresh : w.heap.size ≤ g
 ex : ∃ cur, w'.heap[g]? = some (.cells cur e (0, 0)) ∧ cur.size = cap * sz ∧ ∀ (i j : Nat) r c, rows[i]? = some r → r[j]? = some c → ∃ v, cur[i * sz + j]? = some v ∧ ∀ Z, PRep w' Z c v
 pos : 0 < sz
 le : rows.length ≤ cap
 max : cap ≤ maxLen
 len : ∀ r, r ∈ rows → r.length = sz
theorem Row.orep {w w' : World} {e sz : Nat} {rows : List (List C)} {g cap : Nat} (h : Row w w' e sz rows g cap) {Z : Bk → Prop} {κ : Kap} {o : Nat → Option O} {τ : Nat} (hκ : κ τ = some g) : yK w' Z κ o τ (.arr e sz none rows) := by
 obtain ⟨cur, h1, h2, h3⟩ := h.ex
 exact .inr ⟨g, cur, cap, hκ, h1, h.pos, h2, h.le, h.max, by simp, h.len, fun i j r c hr hc => by obtain ⟨v, hv, hp⟩ := h3 i j r c hr hc; exact ⟨v, hv, hp _⟩⟩
theorem zmO {w w' : World} {Z : Bk → Prop} {e1 sz1 e2 sz2 : Nat} {rows1 rows2 : List (List C)} {g1 cap1 : Nat} {v2 v3 v4 : Value} {c3 c4 : C} (hG : yP (base w)) (hk : yO w w')
   (h1 : Row w w' e1 sz1 rows1 g1 cap1) (h2 : (v2 = .slice none 0 0 ∧ rows2 = []) ∨ ∃ g2 cap2, v2 = .slice (some ⟨g2, 0, none⟩) rows2.length cap2 ∧ g2 ≠ g1 ∧ Row w w' e2 sz2 rows2 g2 cap2)
   (h3 : v3.oneCell' = true ∧ ∀ Z, PRep w' Z c3 v3) (h4 : v4.oneCell' = true ∧ ∀ Z, PRep w' Z c4 v4) :
   uH (base w) Z (.agk [.newl e1 sz1 none rows1, .newl e2 sz2 none rows2, .c c3, .c c4]) (.agg #[.slice (some ⟨g1, 0, none⟩) rows1.length cap1, v2, v3, v4]) w' := by
 intro n
 obtain ⟨k2, hk2, hk2'⟩ : ∃ k2 : Option Nat, ((k2 = none ∧ v2 = .slice none 0 0 ∧ rows2 = []) ∨ ∃ g2 cap2, k2 = some g2 ∧ v2 = .slice (some ⟨g2, 0, none⟩) rows2.length cap2 ∧ g2 ≠ g1 ∧ Row w w' e2 sz2 rows2 g2 cap2) ∧ (∀ b, k2 = some b → w.heap.size ≤ b ∧ b < w'.heap.size ∧ b ≠ g1) := by
   rcases h2 with ⟨a, b⟩ | ⟨g2, cap2, a, b, c⟩
   · exact ⟨none, .inl ⟨rfl, a, b⟩, fun _ h => by cases h⟩
   · obtain ⟨cur, hc, _⟩ := c.ex
     exact ⟨some g2, .inr ⟨g2, cap2, rfl, a, b, c⟩, fun _ h => by cases h; exact ⟨c.fresh, heap_lt hc, b⟩⟩
 obtain ⟨κ, hκ0, hκ1⟩ : ∃ κ : Kap, κ n = some g1 ∧ κ (n + 1) = k2 := ⟨fun τ => if τ = n then some g1 else if τ = n + 1 then k2 else none, if_pos rfl, by simp⟩
 refine ⟨κ, hk, hG, fun τ b ho h => ?_, fun τ τ' b ho ho' h h' => ?_, fun τ ob h => ?_, fun s => ?_⟩
 · rcases j0 ho with rfl | rfl
   · rw [hκ0] at h; cases h
     obtain ⟨cur, hc, _⟩ := h1.ex
     exact ⟨Nat.not_lt.2 h1.fresh, heap_lt hc⟩
   · rw [hκ1] at h
     have := hk2' b h
     exact ⟨Nat.not_lt.2 this.1, this.2.1⟩
 · rcases j0 ho with rfl | rfl <;> rcases j0 ho' with rfl | rfl
   · rfl
   · rw [hκ0] at h; rw [hκ1] at h'; cases h
     exact absurd rfl (hk2' _ h').2.2
   · rw [hκ1] at h; rw [hκ0] at h'; cases h'
     exact absurd rfl (hk2' _ h).2.2
   · rfl
 · rcases zhI h with ⟨rfl, rfl⟩ | ⟨rfl, rfl⟩
   · exact h1.orep hκ0
   · rcases hk2 with ⟨a, b, c⟩ | ⟨g2, cap2, a, b, c, d⟩
     · exact .inl ⟨hκ1.trans a, c, by simp⟩
     · exact d.orep (hκ1.trans a)
 · by_cases hs : s = 0
   · subst hs
     simp only [if_true]
     refine ⟨_, rfl, rfl, fun j k v hk hv => ?_⟩
     match j, hk, hv with
     | 0, hk, hv =>
       simp at hv; subst hv
       cases hk
       refine ⟨rfl, fun e' sz' nl' rows' h => ?_⟩
       rw [show (V.agk [.newl e1 sz1 none rows1, .newl e2 sz2 none rows2, .c c3, .c c4]).reg n = (.agk [.own n, .own (n + 1), .c c3, .c c4], [.arr e1 sz1 none rows1, .arr e2 sz2 none rows2]) from rfl] at h
       rw [zmM] at h; cases h
       obtain ⟨cur, hc, hz, _⟩ := h1.ex
       exact .inr ⟨g1, cur, cap1, hκ0, hc, hz, rfl⟩
     | 1, hk, hv =>
       simp at hv; subst hv
       cases hk
       refine ⟨by rcases hk2 with ⟨_, rfl, _⟩ | ⟨_, _, _, rfl, _⟩ <;> rfl, fun e' sz' nl' rows' h => ?_⟩
       rw [show (V.agk [.newl e1 sz1 none rows1, .newl e2 sz2 none rows2, .c c3, .c c4]).reg n = (.agk [.own n, .own (n + 1), .c c3, .c c4], [.arr e1 sz1 none rows1, .arr e2 sz2 none rows2]) from rfl] at h
       rw [zmN] at h; cases h
       rcases hk2 with ⟨a, b, c⟩ | ⟨g2, cap2, a, b, c, d⟩
       · exact .inl ⟨hκ1.trans a, b⟩
       · obtain ⟨cur, hc, hz, _⟩ := d.ex
         exact .inr ⟨g2, cur, cap2, hκ1.trans a, hc, hz, b⟩
     | 2, hk, hv => simp at hv; subst hv; cases hk; exact ⟨h3.1, h3.2 _⟩
     | 3, hk, hv => simp at hv; subst hv; cases hk; exact ⟨h4.1, h4.2 _⟩
     | j + 4, hk, hv => simp at hv
   · simp only [hs, if_false]; trivial
def C.sc : C → Bool
 | .int _ _ => true
 | .bool _ => true
 | .str _ => true
 | _ => false
def tK (c : C) : Value := uS (.k (.c c))
theorem zmP {w : World} {Z : Bk → Prop} {c : C} {v : Value} (hc : c.sc = true) (h : PRep w Z c v) : v = tK c := by
 cases h <;> first | rfl | cases hc
theorem nS {w : World} {Z : Bk → Prop} {c : C} (hc : c.sc = true) : PRep w Z c (tK c) := by
 cases c <;> first | exact .int _ _ | exact .bool _ | exact .str _ | cases hc
theorem zmQ {c : C} (hc : c.sc = true) : (tK c).oneCell' = true := (nS (w := default) (Z := fun _ => False) hc).oneCell
theorem zhJ {α : Type} {sz : Nat} (h0 : 0 < sz) : ∀ (rows : List (List α)) (k : Nat) (c : α), (∀ r, r ∈ rows → r.length = sz) → rows.flatten[k]? = some c → ∃ i j r, rows[i]? = some r ∧ r[j]? = some c ∧ k = i * sz + j
 | [], k, c, _, h => by simp at h
 | r :: rows, k, c, hl, h => by
   have hr := hl r List.mem_cons_self
   rw [List.flatten_cons] at h
   by_cases hk : k < sz
   · rw [List.getElem?_append_left (by omega)] at h
     exact ⟨0, k, r, rfl, h, by omega⟩
   · rw [List.getElem?_append_right (by omega)] at h
     obtain ⟨i, j, r', h1, h2, h3⟩ := zhJ h0 rows (k - r.length) c (fun r' hr' => hl r' (List.mem_cons_of_mem _ hr')) h
     exact ⟨i + 1, j, r', h1, h2, by rw [Nat.add_mul]; omega⟩
theorem zhK {α : Type} {sz : Nat} : ∀ (rows : List (List α)) (i j : Nat) (r : List α) (c : α), (∀ r, r ∈ rows → r.length = sz) → rows[i]? = some r → r[j]? = some c → rows.flatten[i * sz + j]? = some c
 | [], i, j, r, c, _, h, _ => by simp at h
 | r0 :: rows, 0, j, r, c, hl, h, hc => by
   cases h
   have hj := (List.getElem?_eq_some_iff.1 hc).1
   rw [List.flatten_cons, Nat.zero_mul, Nat.zero_add, List.getElem?_append_left hj]
   exact hc
 | r0 :: rows, i + 1, j, r, c, hl, h, hc => by
   have hr := hl r0 List.mem_cons_self
   rw [List.flatten_cons, Nat.add_mul, List.getElem?_append_right (by omega), show i * sz + 1 * sz + j - r0.length = i * sz + j by omega]
   exact zhK rows i j r c (fun r' hr' => hl r' (List.mem_cons_of_mem _ hr')) h hc
theorem zhL {α : Type} {sz : Nat} : ∀ (rows : List (List α)), (∀ r, r ∈ rows → r.length = sz) → rows.flatten.length = rows.length * sz
 | [], _ => by simp
 | r0 :: rows, hl => by
   rw [List.flatten_cons, List.length_append, zhL rows fun r' hr' => hl r' (List.mem_cons_of_mem _ hr'), hl r0 List.mem_cons_self, List.length_cons, Nat.add_mul]
   omega
def xU (rows : List (List C)) : List Value := rows.flatten.map tK
structure Plain (sz : Nat) (rows : List (List C)) : Prop where
 pos : 0 < sz
 len : ∀ r, r ∈ rows → r.length = sz
 sc : ∀ r, r ∈ rows → ∀ c, c ∈ r → c.sc = true
theorem Plain.clen {sz : Nat} {rows : List (List C)} (h : Plain sz rows) : (xU rows).length = rows.length * sz := by
 rw [xU, List.length_map, zhL rows h.len]
theorem Plain.one {sz : Nat} {rows : List (List C)} (h : Plain sz rows) : ∀ u ∈ xU rows, u.oneCell' = true := by
 intro u hu
 obtain ⟨c, hc, rfl⟩ := List.mem_map.1 hu
 obtain ⟨r, hr, hcr⟩ := List.mem_flatten.1 hc
 exact zmQ (h.sc r hr c hcr)
theorem Plain.at {sz : Nat} {rows : List (List C)} (h : Plain sz rows) {i j : Nat} {r : List C} {c : C} (hr : rows[i]? = some r) (hc : r[j]? = some c) : (xU rows)[i * sz + j]? = some (tK c) ∧ c.sc = true := by
 refine ⟨?_, h.sc r (List.mem_of_getElem? hr) c (List.mem_of_getElem? hc)⟩
 rw [xU, List.getElem?_map, zhK rows i j r c h.len hr hc]; rfl
theorem Plain.slice {sz : Nat} {rows : List (List C)} (h : Plain sz rows) {w : World} {Z : Bk → Prop} {v : Value} (hv : PRep w Z (lstC sz rows) v) :
   ∃ p cap, v = .slice p rows.length cap ∧ (0 < rows.length → ∃ b o, p = some ⟨b, o, none⟩ ∧ ∀ j u, (xU rows)[j]? = some u → w.cell? ⟨b, o + j, none⟩ = some u) ∧ (0 < rows.length → rows.length ≤ cap) := by
 unfold lstC at hv
 by_cases h0 : rows = []
 · subst h0
   have h' : PRep w Z (.list 0 none []) v := hv
   generalize hc : C.list 0 none [] = c at h'
   cases h' with
   | nil => exact ⟨none, 0, rfl, fun hk => absurd hk (by simp), fun hk => absurd hk (by simp)⟩
   | emp _ _ a => exact ⟨some a, 0, rfl, fun hk => absurd hk (by simp), fun hk => absurd hk (by simp)⟩
   | list b o cap sz nl rws val =>
     injection hc with _ _ hr
     subst hr
     exact ⟨some ⟨b, o, none⟩, cap, rfl, fun hk => absurd hk (by simp), fun hk => absurd hk (by simp)⟩
   | _ => cases hc
 · have e : (if rows.isEmpty = true then 0 else sz) = sz := by cases rows <;> simp_all
   rw [e] at hv
   generalize hc : C.list sz none rows = c at hv
   cases hv with
   | nil => injection hc with _ _ hr; exact absurd hr h0
   | emp => injection hc with _ _ hr; exact absurd hr h0
   | list b o cap sz nl rws val h1 h2 h3 h4 h5 h6 h7 =>
     injection hc with hs _ hr
     subst hs hr
     refine ⟨some ⟨b, o, none⟩, cap, rfl, fun _ => ⟨b, o, rfl, fun k u hu => ?_⟩, fun _ => h2⟩
     rw [xU, List.getElem?_map] at hu
     obtain ⟨c, hc, rfl⟩ := Option.map_eq_some_iff.1 hu
     obtain ⟨i, j, r, g1, g2, rfl⟩ := zhJ h.pos rows k c h.len hc
     rw [h6 i j r c g1 g2, zmP (h.sc r (List.mem_of_getElem? g1) c (List.mem_of_getElem? g2)) (h7 i j r c g1 g2)]
   | _ => cases hc
theorem plain_strs (l : List Txt) : Plain 1 (strs l) := by
 refine ⟨by decide, fun r hr => ?_, fun r hr c hc => ?_⟩ <;> obtain ⟨s, _, rfl⟩ := List.mem_map.1 hr
 · rfl
 · simp [x7] at hc; subst hc; rfl
def tL (w : Wr) : List C := [.int .i64 w.pos, .str w.text]
def wrs (l : List Wr) : List (List C) := l.map tL
@[simp] theorem zL (l : List Wr) : (wrs l).length = l.length := by simp [wrs]
theorem tM (l : List Wr) : Plain 2 (wrs l) := by
 refine ⟨by decide, fun r hr => ?_, fun r hr c hc => ?_⟩ <;> obtain ⟨s, _, rfl⟩ := List.mem_map.1 hr
 · rfl
 · simp [tL] at hc; rcases hc with rfl | rfl <;> rfl
def zD (d : Disk) : List C := [lstC 1 (strs d.secs), lstC 2 (wrs d.pend), .int .i64 d.left, .bool d.down]
abbrev dV (d : Disk) : V := .agg (zD d)
abbrev zmR (d : Disk) : V := .agk [.newl 9 1 none (strs d.secs), .newl 52 2 none (wrs d.pend), .c (.int .i64 d.left), .c (.bool d.down)]
theorem zmS {w w' : World} {e sz n B : Nat} {rows : List (List C)} {v : Value} {g : Nat} (h : Plain sz rows) (hw : w'.ownsRow B e sz v n (xU rows)) (hn : n = rows.length) (hB : w.heap.size ≤ B) (hg : g < B) :
   (v = .slice none 0 0 ∧ rows = []) ∨ ∃ g2 cap2, v = .slice (some ⟨g2, 0, none⟩) rows.length cap2 ∧ g2 ≠ g ∧ Row w w' e sz rows g2 cap2 := by
 subst hn
 rcases hw.2 with ⟨h1, h2⟩ | ⟨g2, cap, cur, h1, h2, h3, h4, h5, h6, h7⟩
 · exact .inl ⟨h1, List.eq_nil_of_length_eq_zero h2⟩
 · refine .inr ⟨g2, cap, h1, by omega, by omega, ⟨cur, h3, h6, fun i j r c hr hc => ⟨tK c, ?_, fun Z => nS (h.at hr hc).2⟩⟩, h.pos, h4, h5, h.len⟩
   have := (h.at hr hc).1
   rw [← h7, List.getElem?_take] at this
   split at this
   · simpa using this
   · cases this
theorem s36 (d : Disk) (h : Right d) : Spec Tryz.prog 55 [dV d] (fun r => r = zmR d) := by
 refine ⟨vL (by kernel_rfl), fun w Z vs hG hz ha => ?_⟩
 obtain ⟨l⟩ := vs
 match l, ha with
 | [], ha => exact absurd ha.1 (by simp)
 | _ :: _ :: _, ha => exact absurd ha.1 (by simp)
 | [v], ha =>
   obtain ⟨cs, rfl, hl, hr⟩ := (ha.2 0 _ v rfl rfl).2
   obtain ⟨l⟩ := cs
   match l, hl with
   | [x1, x2, x3, x4], _ =>
     obtain ⟨p1, k1, rfl, q1, m1⟩ := (plain_strs d.secs).slice (hr 0 _ x1 rfl rfl)
     obtain ⟨p2, k2, rfl, q2, m2⟩ := (tM d.pend).slice (hr 1 _ x2 rfl rfl)
     have e3 := wM (hr 2 _ x3 rfl rfl)
     have e4 := qD (hr 3 _ x4 rfl rfl)
     subst e3 e4
     have h0 : 0 < (strs d.secs).length := by rw [strs_len]; exact h.lo
     obtain ⟨b1, o1, rfl, g1⟩ := q1 h0
     refine (zmz b1 o1 (strs d.secs).length k1 (xU (strs d.secs)) p2 (wrs d.pend).length k2 (xU (wrs d.pend)) d.left d.down w (by rw [strs_len]; exact h.hi) (by rw [(plain_strs _).clen]; omega) (plain_strs _).one h0 g1 (tM _).clen (by rw [zL]; exact h.pe) q2 (tM _).one).mono ?_
     rintro e w' ⟨g, v', rfl, hg, hh, ⟨B, ho, hgB⟩, hb⟩
     refine ⟨_, _, rfl, rfl, fun τ => rfl, ?_⟩
     have hk := wU hb
     refine zmO hG hk ⟨hg, ⟨_, hh, ?_, fun i j r c hr hc => ⟨tK c, ?_, fun Z => nS ((plain_strs _).at hr hc).2⟩⟩, by decide, Nat.le_refl _, ?_, (plain_strs _).len⟩ (zmS (tM _) ho rfl (by omega) hgB) ⟨rfl, fun Z => .int _ _⟩ ⟨rfl, fun Z => .bool _⟩
     · rw [List.size_toArray, (plain_strs _).clen]
     · rw [List.getElem?_toArray]; exact ((plain_strs _).at hr hc).1
     · have := h.hi; rw [strs_len]; unfold maxLen; omega
end Go.Abs
set_option maxRecDepth 100000
set_option maxHeartbeats 8000000
namespace Go.Abs
open Go.Proofs Go.Wire Go.RowKit Go.Jr
theorem nT : ∀ (k n : Nat), dig (k + 1) n = UInt8.ofNat (48 + n / 10 ^ k % 10) :: dig k n
 | 0, n => by simp [dig]
 | k + 1, n => by
   rw [dig, nT k (n / 10), Nat.div_div_eq_div_mul, ← Nat.pow_succ', dig, List.cons_append]
def stH (n k : Nat) : Txt := List.replicate (8 - k) 48 ++ dig k n
theorem nU {n k : Nat} (h : k ≤ 8) : (stH n k).length = 8 := by rw [stH, List.length_append, List.length_replicate, wF]; omega
theorem zmT {n k : Nat} (h : k < 8) : stH n (k + 1) = (stH n k).set (7 - k) (UInt8.ofNat (48 + n / 10 ^ k % 10)) := by
 obtain ⟨m, hm⟩ : ∃ m, 8 - k = m + 1 := ⟨7 - k, by omega⟩
 rw [stH, stH, nT, hm, show 8 - (k + 1) = m by omega, show 7 - k = m by omega, List.replicate_succ', List.append_assoc, List.set_append_right _ _ (by simp)]
 simp
theorem zhM (n k : Nat) (h : n / 10 ^ k = 0) : ∀ j, dig (k + j) n = List.replicate j 48 ++ dig k n
 | 0 => by simp
 | j + 1 => by
   rw [← Nat.add_assoc, nT, zhM n k h j, Nat.pow_add, ← Nat.div_div_eq_div_mul, h, Nat.zero_div, List.replicate_succ]
   rfl
theorem zmU {n k : Nat} (h : k ≤ 8) (hn : n / 10 ^ k = 0) : stH n k = dig 8 n := by
 have := zhM n k hn (8 - k)
 rw [show k + (8 - k) = 8 by omega] at this
 rw [this, stH]
def wJ (w : World) (g : Nat) (l : Txt) : Prop := ∃ cur : Array Value, w.heap[g]? = some (.cells cur 5 (cur.size, cur.size + 1)) ∧ ∀ j, j < 8 → cur[j]? = some (.int .u8 (l.getD j 0).toNat)
theorem wJ.cell {w : World} {g : Nat} {l : Txt} (h : wJ w g l) {j : Nat} (hj : j < 8) : w.cell? ⟨g, j, none⟩ = some (.int .u8 (l.getD j 0).toNat) := by
 obtain ⟨cur, h1, h2⟩ := h
 simp only [World.cell?, h1]
 exact h2 j hj
theorem wJ.size {w : World} {g : Nat} {l : Txt} (h : wJ w g l) : ∃ cur : Array Value, w.heap[g]? = some (.cells cur 5 (cur.size, cur.size + 1)) ∧ 8 ≤ cur.size := by
 obtain ⟨cur, h1, h2⟩ := h
 refine ⟨cur, h1, ?_⟩
 have := h2 7 (by decide)
 have := (Array.getElem?_eq_some_iff.1 this).1
 omega
theorem wJ.frozen {w : World} {g : Nat} {l : Txt} (h : wJ w g l) {j : Nat} (hj : j < 8) : w.frozen? ⟨g, j, none⟩ = false := by
 obtain ⟨cur, h1, h2⟩ := h.size
 simp [World.frozen?, h1]
 omega
theorem wJ.set {w : World} {g : Nat} {l : Txt} (h : wJ w g l) (hl : l.length = 8) {j : Nat} (hj : j < 8) (b : UInt8) : wJ (w.setCell ⟨g, j, none⟩ (.int .u8 b.toNat)) g (l.set j b) := by
 obtain ⟨cur, h1, h2⟩ := h
 refine ⟨cur.setIfInBounds j (.int .u8 b.toNat), by simp [World.setCell, Array.getElem?_modify, h1], fun i hi => ?_⟩
 rw [Array.getElem?_setIfInBounds]
 have h3 := h2 i hi
 have hs := (Array.getElem?_eq_some_iff.1 h3).1
 by_cases e : j = i
 · subst e
   simp [hl, hj, hs]
 · rw [if_neg e, h3]
   simp [List.getD_eq_getElem?_getD, List.getElem?_set, e]
theorem wJ.new (n : Nat) (w : World) : wJ (Go.Lib.bytesWorld w 5 ⟨#[48, 48, 48, 48, 48, 48, 48, 48]⟩) w.heap.size (stH n 0) := by
 refine ⟨_, Go.Lib.bytesWorld_at_new w 5 _, fun j hj => ?_⟩
 have := Go.Lib.bytesWorld_cell w 5 ⟨#[48, 48, 48, 48, 48, 48, 48, 48]⟩ j hj
 simp only [World.cell?, Go.Lib.bytesWorld_at_new] at this
 exact this
theorem h30 (n : Nat) (hn : n < 100000000) (w : World) (hG : yP (base w)) :
   Calls Tryz.prog 60 #[.int .i64 n] w fun e w' => e = .returned (.string ⟨(hdr n).toArray⟩) ∧ Below w.heap.size w w' := by
 have hcv : ∀ w : World, (convert 9 90 (.string ⟨#[48, 48, 48, 48, 48, 48, 48, 48]⟩)).run Tryz.prog w = .ok (.slice (some ⟨w.heap.size, 0, none⟩) 8 (grownCap w 8 0 5)) (Go.Lib.bytesWorld w 5 ⟨#[48, 48, 48, 48, 48, 48, 48, 48]⟩) := fun w => Go.Lib.run_convert_string_bytes w 9 90 5 _ Tryz.underlying9 Tryz.underlying90 Tryz.underlying5
 go_enter Tryz.func60, Tryz.ntmps60
 go_wp2_with (go_at_call 57; refine (zmq w hG).mono ?_; rintro e w0 ⟨rfl, hb1⟩)
 have hw2 := Go.Lib.bytesWorld_below w0 5 ⟨#[48, 48, 48, 48, 48, 48, 48, 48]⟩
 have hH2 := wJ.new n w0
 generalize Go.Lib.bytesWorld w0 5 ⟨#[48, 48, 48, 48, 48, 48, 48, 48]⟩ = w2 at hw2 hH2 ⊢
 generalize grownCap w0 8 0 5 = cap
 have hbs := hb1.size
 go_loopg [0, 4] n (fun g x i wr => ∃ k m : Nat, k ≤ 8 ∧ m = n / 10 ^ k ∧ m = g ∧ x = .int .i64 m ∧ i = .int .i64 (7 - (k : Int)) ∧ wJ wr w0.heap.size (stH n k) ∧ Below w0.heap.size w0 wr)
 case atStart => exact ⟨0, n, by decide, by simp, rfl, rfl, rfl, hH2, hw2⟩
 case round =>
   obtain ⟨k, m, hk, hm, rfl, rfl, rfl, hH, hb⟩ := hrel
   have hmn : m ≤ n := by rw [hm]; exact Nat.div_le_self _ _
   have hm2 : Aside (n / 10 ^ k = m) := hm.symm
   clear hm
   by_cases h0 : m = 0
   · have hle : ¬ (m : Int) > 0 := by omega
     have hcb : ∀ dst, Tryz.prog.underlying dst = some .string → (convert 90 dst (.slice (some ⟨w0.heap.size, 0, none⟩) 8 cap)).run Tryz.prog wr = .ok (.string ⟨(stH n k).toArray⟩) wr := by
       intro dst hd
       have := run_convert_bytes_back (P := Tryz.prog) wr 90 dst 5 ⟨w0.heap.size, 0, none⟩ cap (stH n k) Tryz.underlying90 Tryz.underlying5 hd (fun j hj => by
         have hj8 : j < 8 := by rwa [nU hk] at hj
         have := hH.cell hj8
         rw [List.getD_eq_getElem?_getD, List.getElem?_eq_getElem hj] at this
         rw [Addr.add_lit, Nat.zero_add]
         exact this)
       rwa [nU hk] at this
     have hcb9 := hcb 9 Tryz.underlying9
     have hln := nU (n := n) hk
     have hsz : (⟨(stH n k).toArray⟩ : ByteArray).size = 8 := by show (stH n k).toArray.size = 8; rw [List.size_toArray, hln]
     go_wp2
     go_ret
     rw [zmU hk (hm2.out.trans h0)]
     exact ⟨by rw [ByteArray.mk_append_mk]; rfl, hb1.trans (hb.mono hbs)⟩
   · have hk8 : k < 8 := by
       refine Nat.lt_of_not_le fun h => h0 ?_
       rw [← hm2.out]
       refine Nat.div_eq_of_lt (Nat.lt_of_lt_of_le hn ?_)
       exact Nat.pow_le_pow_right (n := 10) (by decide) h
     have hgt : (m : Int) > 0 := by omega
     have hc := hH.cell (j := 7 - k) (by omega)
     have hf := hH.frozen (j := 7 - k) (by omega)
     have hs := hH.set (nU hk) (j := 7 - k) (by omega) (UInt8.ofNat (48 + m % 10))
     have hm10 : Aside (m / 10 = n / 10 ^ (k + 1)) := show _ = _ by rw [← hm2.out, Nat.div_div_eq_div_mul, Nat.pow_succ]
     rw [← hm2.out, ← zmT hk8, hm2.out] at hs
     have hv : ((UInt8.ofNat (48 + m % 10)).toNat : Int) = 48 + (m : Int) % 10 := by
       rw [UInt8.toNat_ofNat']
       omega
     rw [hv] at hs
     have hq : wrap64 ((m : Int).tdiv 10) = (m : Int) / 10 := by
       rw [Int.tdiv_eq_ediv_of_nonneg (by omega)]
       unfold wrap64
       omega
     go_wp2
     go_roundg (m / 10)
     case measure => omega
     case rel =>
       refine ⟨k + 1, m / 10, by omega, hm10.out, rfl, ?_, ?_, hs, hb.setCell (Nat.le_refl _) _⟩
       · simp
       · congr 1; omega
end Go.Abs
set_option maxRecDepth 100000
set_option maxHeartbeats 4000000
namespace Go.Abs
open Go.Proofs Go.Wire Go.RowKit Go.Jr
theorem Spec.ofStr {f : FuncId} {args : List V} {t : Txt} (hc : (match Tryz.prog.funcs[f]? with | some fn => fn.body.isSome && !(fn.name == "runtime.NumGoroutine") | none => false) = true)
   (h : ∀ (w : World) (Z : Bk → Prop) (vs : Array Value), yP (base w) → (∀ b, Z b → b.2 < w.heap.size) → uW w Z args vs.toList → Calls Tryz.prog f vs w fun e w' => e = .returned (.string ⟨t.toArray⟩) ∧ Below w.heap.size w w') : Spec Tryz.prog f args (fun r => r = .str t) := by
 refine ⟨vL hc, fun w Z vs hG hz ha => (h w Z vs hG hz ha).mono ?_⟩
 rintro e w' ⟨rfl, hb⟩
 exact ⟨_, _, rfl, rfl, fun _ => rfl, k9 hG (wU hb) (fun _ => rfl) fun Z => ⟨rfl, .str _⟩⟩
theorem zmV {w : World} {Z : Bk → Prop} {a : V} {vs : Array Value} (ha : uW w Z [a] vs.toList) : ∃ v1, vs = #[v1] ∧ zE w Z (fun _ => none) (fun _ => none) a v1 := by
 obtain ⟨l⟩ := vs
 match l, ha with
 | [], ha => exact absurd ha.1 (by simp)
 | _ :: _ :: _, ha => exact absurd ha.1 (by simp)
 | [v1], ha => exact ⟨v1, rfl, (ha.2 0 _ v1 rfl rfl).2⟩
theorem s30 (n : Nat) (h : n < 100000000) : Spec Tryz.prog 60 [.int .i64 n] (fun r => r = .str (hdr n)) := by
 refine Spec.ofStr (by kernel_rfl) fun w Z vs hG hz ha => ?_
 obtain ⟨v1, rfl, h1⟩ := zmV ha
 rw [wM h1.2]
 exact h30 n h w hG
theorem s43 (n : Nat) (h : n ≤ 16) : Spec Tryz.prog 57 [.str [0], .int .i64 n] (fun r => r = .str (yM n)) := by
 refine Spec.ofStr (by kernel_rfl) fun w Z vs hG hz ha => ?_
 obtain ⟨v1, v2, rfl, h1, h2⟩ := jR ha
 rw [uO h1.2, wM h2.2]
 exact zmm n h w hG
theorem zhN (l : List Txt) : ∀ k, k ≤ l.length → cat (fun i => l.getD i []) k = (l.take k).flatten
 | 0, _ => by simp [cat]
 | k + 1, h => by
   rw [cat, zhN l k (by omega), List.take_add_one, List.getElem?_eq_getElem (by omega), List.flatten_append]
   simp [List.getD_eq_getElem?_getD, List.getElem?_eq_getElem (show k < l.length by omega)]
theorem s41 (l : List Txt) (h1 : l.length ≤ 1000000) (h2 : l.flatten.length ≤ 140737488355328) : Spec Tryz.prog 89 [lst 1 (strs l), .str []] (fun r => r = .str l.flatten) := by
 refine Spec.ofStr (by kernel_rfl) fun w Z vs hG hz ha => ?_
 obtain ⟨v1, v2, rfl, hv1, hv2⟩ := jR ha
 rw [uO hv2.2]
 obtain ⟨p, cap, rfl, q, m⟩ := (plain_strs l).slice hv1.2
 rw [strs_len] at q m ⊢
 have hcell : ∀ b o, (∀ j u, (xU (strs l))[j]? = some u → w.cell? ⟨b, o + j, none⟩ = some u) → ∀ k, k < l.length → w.cell? ⟨b, o + k, none⟩ = some (.string ⟨(l.getD k []).toArray⟩) := by
   intro b o hc k hk
   refine hc k _ ?_
   have := ((plain_strs l).at (i := k) (j := 0) (r := x7 l[k]) (c := .str l[k]) (by simp [strs, hk]) rfl).1
   rw [Nat.mul_one, Nat.add_zero] at this
   rw [this]
   simp [List.getD_eq_getElem?_getD, hk]
   rfl
 match hl : l.length, q, m with
 | 0, q, m =>
   obtain rfl : l = [] := List.eq_nil_of_length_eq_zero hl
   exact zms cap p w
 | 1, q, m =>
   obtain ⟨b, o, rfl, hc⟩ := q (by decide)
   have := hcell b o hc 0 (by omega)
   match l, hl with
   | [s], _ =>
     have e : [s].flatten = s := by simp
     rw [e]
     exact zmt cap b o ⟨s.toArray⟩ w this (m (by simp))
 | n + 2, q, m =>
   obtain ⟨b, o, rfl, hc⟩ := q (by omega)
   have hb : b < w.heap.size := by
     have := hcell b o hc 0 (by omega)
     exact Nat.lt_of_not_le fun hge => by simp [World.cell?, Array.getElem?_eq_none hge] at this
   have e := zhN l (n + 2) (by omega)
   rw [List.take_of_length_le (by omega)] at e
   rw [← e]
   exact zmr (n + 2) cap b o (fun i => l.getD i []) w hb (fun k hk => hcell b o hc k (by omega)) (by omega) (by omega) (m (by omega)) (by rw [e]; exact h2)
theorem tb1 {n τ : Nat} {a x : O} (h : zM n [a] τ = some x) : τ = n ∧ x = a := by
 unfold zM at h
 split at h
 · rename_i hle
   obtain ⟨k, rfl⟩ : ∃ k, τ = n + k := ⟨τ - n, by omega⟩
   rw [Nat.add_sub_cancel_left] at h
   match k, h with
   | 0, h => simp at h; exact ⟨rfl, h.symm⟩
   | k + 1, h => simp at h
 · cases h
theorem zhO {n τ : Nat} {a : O} (h : zM n [a] τ ≠ none) : τ = n := by
 cases e : zM n [a] τ with
 | none => exact absurd e h
 | some x => exact (tb1 e).1
abbrev zhP (w w' : World) (e sz : Nat) (rows : List (List C)) (v : Value) : Prop := (v = .slice none 0 0 ∧ rows = []) ∨ ∃ g cap, v = .slice (some ⟨g, 0, none⟩) rows.length cap ∧ Row w w' e sz rows g cap
theorem pC {w w' : World} {Z : Bk → Prop} {e sz : Nat} {rows : List (List C)} {v : Value} (hG : yP (base w)) (hk : yO w w') (h : zhP w w' e sz rows v) : uH (base w) Z (.k (.newl e sz none rows)) v w' := by
 intro n
 obtain ⟨k, hk1, hk2⟩ : ∃ k : Option Nat, ((k = none ∧ v = .slice none 0 0 ∧ rows = []) ∨ ∃ g cap, k = some g ∧ v = .slice (some ⟨g, 0, none⟩) rows.length cap ∧ Row w w' e sz rows g cap) ∧ (∀ b, k = some b → w.heap.size ≤ b ∧ b < w'.heap.size) := by
   rcases h with ⟨a, b⟩ | ⟨g, cap, a, b⟩
   · exact ⟨none, .inl ⟨rfl, a, b⟩, fun _ h => by cases h⟩
   · obtain ⟨cur, hc, _⟩ := b.ex
     exact ⟨some g, .inr ⟨g, cap, rfl, a, b⟩, fun _ h => by cases h; exact ⟨b.fresh, heap_lt hc⟩⟩
 refine ⟨fun _ => k, hk, hG, fun τ b ho h => ?_, fun τ τ' b ho ho' h h' => ?_, fun τ ob h => ?_, fun s => ?_⟩
 · have := hk2 b h
   exact ⟨Nat.not_lt.2 this.1, this.2⟩
 · exact (zhO ho).trans (zhO ho').symm
 · obtain ⟨rfl, rfl⟩ := tb1 h
   rcases hk1 with ⟨a, b, c⟩ | ⟨g, cap, a, b, c⟩
   · exact .inl ⟨a, c, by simp⟩
   · exact c.orep a
 · by_cases hs : s = 0
   · subst hs
     simp only [if_true]
     refine ⟨by rcases hk1 with ⟨_, rfl, _⟩ | ⟨_, _, _, rfl, _⟩ <;> rfl, fun e' sz' nl' rows' h => ?_⟩
     obtain ⟨_, h2⟩ := tb1 h
     cases h2
     rcases hk1 with ⟨a, b, c⟩ | ⟨g, cap, a, b, c⟩
     · exact .inl ⟨a, b⟩
     · obtain ⟨cur, hc, hz, _⟩ := c.ex
       exact .inr ⟨g, cur, cap, a, hc, hz, b⟩
   · simp only [hs, if_false]; trivial
theorem nV {w w' : World} {e sz n : Nat} {rows : List (List C)} {v : Value} (h : Plain sz rows) (hw : w'.ownsRow w.heap.size e sz v n (xU rows)) (hn : n = rows.length) : zhP w w' e sz rows v := by
 subst hn
 rcases hw.2 with ⟨h1, h2⟩ | ⟨g2, cap, cur, h1, h2, h3, h4, h5, h6, h7⟩
 · exact .inl ⟨h1, List.eq_nil_of_length_eq_zero h2⟩
 · refine .inr ⟨g2, cap, h1, h2, ⟨cur, h3, h6, fun i j r c hr hc => ⟨tK c, ?_, fun Z => nS (h.at hr hc).2⟩⟩, h.pos, h4, h5, h.len⟩
   have := (h.at hr hc).1
   rw [← h7, List.getElem?_take] at this
   split at this
   · simpa using this
   · cases this
theorem cells_strs (l : List Txt) : xU (strs l) = (l.map fun s => (⟨s.toArray⟩ : ByteArray)).map Value.string := by
 rw [xU, strs, List.map_map]
 induction l with
 | nil => rfl
 | cons a l ih => simp [x7, ih]; rfl
theorem s37 (l : List Txt) (hl : l.length ≤ 8796093022208) : Spec Tryz.prog 37 [lst 1 (strs l)] (fun r => r = .k (.newl 9 1 none (strs l))) := by
 refine ⟨vL (by kernel_rfl), fun w Z vs hG hz ha => ?_⟩
 obtain ⟨vl⟩ := vs
 match vl, ha with
 | [], ha => exact absurd ha.1 (by simp)
 | _ :: _ :: _, ha => exact absurd ha.1 (by simp)
 | [v], ha =>
   obtain ⟨p, k, rfl, q, m⟩ := (plain_strs l).slice (ha.2 0 _ v rfl rfl).2.2
   have hcl := (plain_strs l).clen
   by_cases h0 : l = []
   · subst h0
     have conc : ∀ v' w', w'.ownsRow w.heap.size 9 1 v' 0 [] → Below w.heap.size w w' → ∃ v_1 r, Ending.returned v' = .returned v_1 ∧ r = V.k (.newl 9 1 none (strs [])) ∧ (∀ τ, r.noRef τ = true) ∧ uH (base w) Z r v_1 w' := fun v' w' ho hb =>
       ⟨_, _, rfl, rfl, fun τ => rfl, pC hG (wU hb) (nV (rows := strs []) (plain_strs []) ho rfl)⟩
     cases p with
     | none =>
       refine (Any.slices_Clone_string_nil Tryz.laysClone 0 k w).mono ?_
       rintro e w' ⟨rfl, rfl⟩
       exact conc _ _ ⟨rfl, .inl ⟨rfl, rfl⟩⟩ (Below.refl _ _)
     | some a =>
       refine (Any.slices_Clone_string_zero Tryz.laysClone a k w).mono ?_
       rintro e w' ⟨v', rfl, ho, _, hb⟩
       exact conc _ _ ho hb
   · have hpos : 0 < (strs l).length := by rw [strs_len]; exact List.length_pos_iff.2 h0
     obtain ⟨b, o, rfl, g⟩ := q hpos
     refine (Any.slices_Clone_string Tryz.laysClone b o (strs l).length k (l.map fun s => (⟨s.toArray⟩ : ByteArray)) w (by rw [strs_len, List.length_map]; exact Nat.le_refl _) (by rw [strs_len]; omega) ?_).mono ?_
     · intro j hj
       refine g j _ ?_
       rw [cells_strs, List.getElem?_map, List.getD_eq_getElem?_getD, List.getElem?_eq_getElem hj]; rfl
     · rintro e w' ⟨v', rfl, ho, _, hb⟩
       refine ⟨_, _, rfl, rfl, fun τ => rfl, pC hG (wU hb) (nV (n := (strs l).length) (plain_strs l) ?_ rfl)⟩
       rw [cells_strs]
       rw [List.take_of_length_le (by rw [strs_len, List.length_map]; exact Nat.le_refl _)] at ho
       exact ho
end Go.Abs
set_option maxRecDepth 10000
namespace Go.Rg
open Go.Wire
theorem rY (a : Txt) : ¬ a < a := List.lt_irrefl a
theorem j4 {a b c : Txt} (h : a < b) (h2 : b < c) : a < c := List.lt_trans h h2
theorem tri (a b : Txt) : a < b ∨ a = b ∨ b < a := by
 by_cases h : a < b
 · exact .inl h
 · by_cases h2 : b < a
   · exact .inr (.inr h2)
   · exact .inr (.inl (List.le_antisymm (List.not_lt.1 h2) (List.not_lt.1 h)))
abbrev Asc (l : List Txt) : Prop := l.Pairwise (· < ·)
theorem Asc.uniq : ∀ {a b : List Txt}, Asc a → Asc b → (∀ x, x ∈ a ↔ x ∈ b) → a = b
 | [], [], _, _, _ => rfl
 | [], y :: b, _, _, h => absurd ((h y).2 List.mem_cons_self) (by simp)
 | x :: a, [], _, _, h => absurd ((h x).1 List.mem_cons_self) (by simp)
 | x :: a, y :: b, ha, hb, h => by
   obtain ⟨h1, h2⟩ := List.pairwise_cons.1 ha
   obtain ⟨h3, h4⟩ := List.pairwise_cons.1 hb
   have hxy : x = y := by
     rcases List.mem_cons.1 ((h x).1 List.mem_cons_self) with e | e
     · exact e
     · rcases List.mem_cons.1 ((h y).2 List.mem_cons_self) with e2 | e2
       · exact e2.symm
       · exact absurd (j4 (h1 y e2) (h3 x e)) (rY x)
   subst hxy
   rw [Asc.uniq h2 h4 fun z => ?_]
   refine ⟨fun hz => ?_, fun hz => ?_⟩
   · rcases List.mem_cons.1 ((h z).1 (List.mem_cons_of_mem _ hz)) with rfl | e
     · exact absurd (h1 z hz) (rY z)
     · exact e
   · rcases List.mem_cons.1 ((h z).2 (List.mem_cons_of_mem _ hz)) with rfl | e
     · exact absurd (h3 z hz) (rY z)
     · exact e
def y6 : List Txt → Txt → List Txt
 | [], s => [s]
 | a :: l, s => if s < a then s :: a :: l else if s = a then a :: l else a :: y6 l s
theorem j5 : ∀ (l : List Txt) (s x : Txt), x ∈ y6 l s ↔ x = s ∨ x ∈ l
 | [], s, x => by simp [y6]
 | a :: l, s, x => by
   rw [y6]
   split
   · simp
   · split
     · rename_i h; subst h; simp
     · simp only [List.mem_cons, j5 l s x]
       constructor
       · rintro (h | h | h)
         · exact .inr (.inl h)
         · exact .inl h
         · exact .inr (.inr h)
       · rintro (h | h | h)
         · exact .inr (.inl h)
         · exact .inl h
         · exact .inr (.inr h)
theorem zhQ : ∀ {l : List Txt} (s : Txt), Asc l → Asc (y6 l s)
 | [], s, _ => by simp [y6]
 | a :: l, s, h => by
   obtain ⟨h1, h2⟩ := List.pairwise_cons.1 h
   rw [y6]
   split
   · rename_i hs
     refine List.pairwise_cons.2 ⟨fun x hx => ?_, h⟩
     rcases List.mem_cons.1 hx with rfl | hx
     · exact hs
     · exact j4 hs (h1 x hx)
   · rename_i hs
     split
     · exact h
     · rename_i hne
       refine List.pairwise_cons.2 ⟨fun x hx => ?_, zhQ s h2⟩
       rcases (j5 l s x).1 hx with rfl | hx
       · rcases tri x a with h3 | h3 | h3
         · exact absurd h3 hs
         · exact absurd h3 hne
         · exact h3
       · exact h1 x hx
def vN (acc : List Txt) (l : List Txt) : List Txt := l.foldl y6 acc
theorem j6 : ∀ (l : List Txt) {acc : List Txt}, Asc acc → Asc (vN acc l)
 | [], _, h => h
 | s :: l, _, h => j6 l (zhQ s h)
theorem j7 : ∀ (l : List Txt) (acc : List Txt) (x : Txt), x ∈ vN acc l ↔ x ∈ acc ∨ x ∈ l
 | [], acc, x => by simp [vN]
 | s :: l, acc, x => by
   show x ∈ vN (y6 acc s) l ↔ _
   rw [j7 l (y6 acc s) x, j5]
   simp only [List.mem_cons]
   constructor
   · rintro ((h | h) | h)
     · exact .inr (.inl h)
     · exact .inl h
     · exact .inr (.inr h)
   · rintro (h | h | h)
     · exact .inl (.inr h)
     · exact .inl (.inl h)
     · exact .inr h
def cnt (logs : List (List Txt)) (s : Txt) : Nat := (logs.filter (fun l => decide (s ∈ l))).length
def xF (logs : List (List Txt)) : List Txt := vN [] (logs.flatten.filter fun s => decide (2 ≤ cnt logs s))
theorem zmW (logs : List (List Txt)) : Asc (xF logs) := j6 _ List.Pairwise.nil
theorem zmX {logs : List (List Txt)} {s : Txt} (h : 1 ≤ cnt logs s) : s ∈ logs.flatten := by
 unfold cnt at h
 obtain ⟨l, hl⟩ := List.length_pos_iff_exists_mem.1 h
 obtain ⟨h1, h2⟩ := List.mem_filter.1 hl
 exact List.mem_flatten.2 ⟨l, h1, of_decide_eq_true h2⟩
theorem zmY (logs : List (List Txt)) (s : Txt) : s ∈ xF logs ↔ 2 ≤ cnt logs s := by
 unfold xF
 rw [j7]
 simp only [List.not_mem_nil, false_or, List.mem_filter, decide_eq_true_eq]
 exact ⟨fun h => h.2, fun h => ⟨zmX (by omega), h⟩⟩
theorem zhR {logs : List (List Txt)} {l : List Txt} (h1 : Asc l) (h2 : ∀ s, s ∈ l ↔ 2 ≤ cnt logs s) : l = xF logs :=
 Asc.uniq h1 (zmW logs) fun s => (h2 s).trans (zmY logs s).symm
theorem j8 (l : List Txt) (logs : List (List Txt)) (s : Txt) : cnt (l :: logs) s = (if s ∈ l then 1 else 0) + cnt logs s := by
 unfold cnt
 rw [List.filter_cons]
 by_cases h : s ∈ l
 · simp [h]; omega
 · simp [h]
theorem zmZ (a b : List (List Txt)) (s : Txt) : cnt (a ++ b) s = cnt a s + cnt b s := by
 unfold cnt; rw [List.filter_append, List.length_append]
theorem zm0 {l : List Txt} (h : l.Nodup) : Asc (l.mergeSort fun x y => decide (x ≤ y)) := by
 have hp := List.mergeSort_perm l (fun x y => decide (x ≤ y))
 have hs := List.pairwise_mergeSort (le := fun (x y : Txt) => decide (x ≤ y)) (fun a b c h1 h2 => by
   simp only [decide_eq_true_eq] at h1 h2 ⊢
   exact List.le_trans h1 h2) (fun a b => by
   simp only [Bool.or_eq_true, decide_eq_true_eq]
   exact List.le_total a b) l
 have hn : (l.mergeSort fun x y => decide (x ≤ y)).Nodup := hp.nodup_iff.2 h
 refine (List.Pairwise.and hs hn).imp fun {a b} ⟨h1, h2⟩ => ?_
 have h3 : a ≤ b := of_decide_eq_true h1
 rcases tri a b with h4 | h4 | h4
 · exact h4
 · exact absurd h4 h2
 · exact absurd (List.not_lt.2 h3) (fun h => h h4)
theorem zm1 (l : List Txt) (x : Txt) : (x ∈ l.mergeSort fun x y => decide (x ≤ y)) ↔ x ∈ l := List.mem_mergeSort
end Go.Rg
namespace Go.Rg
open Go.Wire
def wA (a : List Txt) : List (List Txt) → List Txt → List Txt
 | [], out => out
 | b :: r, out => wA a r (vN out (a.filter fun s => decide (s ∈ b)))
def wB : List (List Txt) → List Txt → List Txt
 | [], out => out
 | a :: r, out => wB r (wA a r out)
theorem zhS (a : List Txt) : ∀ (r : List (List Txt)) {out : List Txt}, Asc out → Asc (wA a r out)
 | [], _, h => h
 | b :: r, _, h => zhS a r (j6 _ h)
theorem zhT : ∀ (r : List (List Txt)) {out : List Txt}, Asc out → Asc (wB r out)
 | [], _, h => h
 | a :: r, _, h => zhT r (zhS a r h)
theorem zhU (a : List Txt) : ∀ (r : List (List Txt)) (out : List Txt) (x : Txt), x ∈ wA a r out ↔ x ∈ out ∨ (x ∈ a ∧ 1 ≤ cnt r x)
 | [], out, x => by simp [wA, cnt]
 | b :: r, out, x => by
   rw [wA, zhU a r, j7, j8, List.mem_filter, decide_eq_true_eq]
   by_cases hb : x ∈ b
   · rw [if_pos hb]
     constructor
     · rintro ((h | h) | h)
       · exact .inl h
       · exact .inr ⟨h.1, by omega⟩
       · exact .inr ⟨h.1, by omega⟩
     · rintro (h | h)
       · exact .inl (.inl h)
       · exact .inl (.inr ⟨h.1, hb⟩)
   · rw [if_neg hb]
     constructor
     · rintro ((h | h) | h)
       · exact .inl h
       · exact absurd h.2 hb
       · exact .inr ⟨h.1, by omega⟩
     · rintro (h | h)
       · exact .inl (.inl h)
       · exact .inr ⟨h.1, by omega⟩
theorem zhV : ∀ (r : List (List Txt)) (out : List Txt) (x : Txt), x ∈ wB r out ↔ x ∈ out ∨ 2 ≤ cnt r x
 | [], out, x => by simp [wB, cnt]
 | a :: r, out, x => by
   rw [wB, zhV r, zhU, j8]
   by_cases ha : x ∈ a
   · rw [if_pos ha]
     constructor
     · rintro ((h | h) | h)
       · exact .inl h
       · exact .inr (by omega)
       · exact .inr (by omega)
     · rintro (h | h)
       · exact .inl (.inl h)
       · exact .inl (.inr ⟨ha, by omega⟩)
   · rw [if_neg ha]
     constructor
     · rintro ((h | h) | h)
       · exact .inl h
       · exact absurd h.1 ha
       · exact .inr (by omega)
     · rintro (h | h)
       · exact .inl (.inl h)
       · exact .inr (by omega)
theorem zhW (logs : List (List Txt)) : wB logs [] = xF logs :=
 zhR (zhT logs List.Pairwise.nil) fun s => by rw [zhV]; simp
end Go.Rg
set_option maxRecDepth 100000
set_option maxHeartbeats 4000000
namespace Go.Abs
open Go.Proofs Go.Wire Go.RowKit Go.Jr
@[simp] theorem zos (l : List Wr) : (wrs l).isEmpty = l.isEmpty := by cases l <;> rfl
theorem xP {l : List Wr} {i : Nat} (h : i < l.length) : (wrs l).getD i [] = [.int .i64 l[i].pos, .str l[i].text] := by simp [wrs, tL, h]
@[simp] theorem zot (w : Wr) : C.normRow (tL w) = tL w := rfl
@[simp] theorem zB (l : List Wr) : C.normRows (wrs l) = wrs l := v8 (fun _ => rfl) l
theorem j9 (l : List Wr) (w : Wr) : wrs l ++ [[.int .i64 w.pos, .str w.text]] = wrs (l ++ [w]) := by simp [wrs, tL]
abbrev yN (secs : List Txt) (pend : List Wr) (left : Int) (down : Bool) : O := .var 25 [.c (lstC 1 (strs secs)), .c (lstC 2 (wrs pend)), .c (.int .i64 left), .c (.bool down)]
theorem b37 (d : Disk) (h : Right d) : Spec Tryz.prog 71 [dV d] (fun r => r = .bool true) := by
 refine Spec.of_awlS hf71 okf71 (by simp) fun S hS => ?_
 obtain ⟨secs, pend, left, down⟩ := d
 have hlo : 1 ≤ secs.length := h.lo
 have hhi : secs.length ≤ 512 := h.hi
 have hpe : pend.length ≤ 512 := h.pe
 have hl0 : -1 ≤ left := h.l0
 have hl1 : left ≤ 512 := h.l1
 have hse : ∀ s ∈ secs, s.length = 16 := h.se
 have hwr : ∀ w ∈ pend, 0 ≤ w.pos ∧ w.pos < secs.length ∧ w.text.length = 16 := h.wr
 have l0 : ¬ (secs.length : Int) < 1 := by omega
 have l1 : ¬ (secs.length : Int) > 512 := by omega
 have p1 : ¬ (pend.length : Int) > 512 := by omega
 have f0 : ¬ left < -1 := by omega
 have f1 : ¬ left > 512 := by omega
 have hpl : down = true → ¬ (pend.length : Int) > 0 ∧ (left != -1) = false := fun e => by
   obtain ⟨e1, e2⟩ := h.dn e
   have e1 : pend = [] := e1
   have e2 : left = -1 := e2
   subst e1 e2
   exact ⟨by simp, rfl⟩
 have key : ∀ ts, lookT 1 ts = .k (.ptr 1 0) → awl Tryz.prog f71b40 (endK [RX.t 2] S) ts [(1, yN secs pend left down)] := by
   intro ts h1
   simp only [h1, strs_len, zL, Qs, if_false, Nat.reduceAdd, Nat.reduceLeDiff, uu f71b37.eq_1, vv f71r38.eq_1, uu f71b39.eq_1, uu f71b40.eq_1]
   rw [zg0]
   refine zU (fun i : Nat => [(1, .k (.ptr 1 0)), (49, lst 1 (strs secs)), (50, .int .i64 secs.length), (51, .int .i64 i)]) (fun _ => [(1, yN secs pend left down)])
     (fun i => i ≤ secs.length) (fun i => secs.length - i) 0 (by simp [keepT, lookT, h1]) rfl (Nat.zero_le _) ?_
   intro i hi
   by_cases hlt : i < secs.length
   · have c1 : (i : Int) < secs.length := by omega
     have c4 : IntKind.i64.wrap ((i : Int) + 1) = (i : Int) + 1 := wrap_in (by omega) (by omega)
     have c2 := hse _ (List.getElem_mem hlt)
     simp only [strs_len, c1, c2, c4, zX hlt, Qs, if_true, Nat.reduceBEq, Int.reduceBNe, vv f71r22.eq_1, uu f71b25.eq_1, vv f71r26.eq_1, uu f71b27.eq_1, vv f71r28.eq_1, uu f71b29.eq_1, uu f71b30.eq_1, uu f71b31.eq_1, uu f71b32.eq_1, uu f71b33.eq_1, vv f71r34.eq_1, uu f71b35.eq_1]
     exact Next.intro (i + 1) rfl rfl (by omega) (by omega)
   · have c1 : ¬ (i : Int) < secs.length := by omega
     simp only [strs_len, zL, c1, Qs, if_true, if_false, Nat.reduceAdd, Nat.reduceLeDiff, Nat.reduceBEq, uu f71b18.eq_1, vv f71r19.eq_1, uu f71b20.eq_1, uu f71b21.eq_1, uu f71b32.eq_1, uu f71b33.eq_1, vv f71r34.eq_1, uu f71b35.eq_1]
     rw [zgZ]
     refine zU (fun i : Nat => [(1, .k (.ptr 1 0)), (60, lst 2 (wrs pend)), (61, .int .i64 pend.length), (62, .int .i64 i)]) (fun _ => [(1, yN secs pend left down)])
       (fun i => i ≤ pend.length) (fun i => pend.length - i) 0 rfl rfl (Nat.zero_le _) ?_
     intro i hi
     by_cases hlt : i < pend.length
     · have c1 : (i : Int) < pend.length := by omega
       have c4 : IntKind.i64.wrap ((i : Int) + 1) = (i : Int) + 1 := wrap_in (by omega) (by omega)
       obtain ⟨w0, w1, w2⟩ := hwr _ (List.getElem_mem hlt)
       have c5 : ¬ pend[i].pos < 0 := by omega
       have c6 : ¬ pend[i].pos ≥ secs.length := by omega
       simp only [strs_len, zL, c1, c4, c5, c6, w2, xP hlt, Qs, if_true, if_false, bne_iff_ne, ne_eq, List.append_nil, Nat.reduceAdd, Nat.reduceEqDiff, Nat.reduceLeDiff, Nat.reduceBEq, Int.reduceBNe, vv f71r3.eq_1, uu f71b6.eq_1, vv f71r7.eq_1, uu f71b8.eq_1, vv f71r9.eq_1, uu f71b10.eq_1, uu f71b11.eq_1, uu f71b12.eq_1, uu f71b13.eq_1, uu f71b14.eq_1, vv f71r15.eq_1, uu f71b16.eq_1]
       exact Next.intro (i + 1) rfl rfl (by omega) (by omega)
     · have c1 : ¬ (i : Int) < pend.length := by omega
       simp only [zL, c1, Qs, if_true, List.nodup_nil, Nat.reduceBEq, vv f71r1.eq_1, uu f71b2.eq_1, uu f71b13.eq_1, uu f71b14.eq_1, vv f71r15.eq_1, uu f71b16.eq_1]
       exact hS
 cases down
 · simp only [zD, strs_len, zL, l0, l1, p1, f0, f1, Qs, if_true, if_false, Int.reduceNeg, Nat.reduceAdd, Nat.reduceLeDiff, Nat.reduceBEq, uu f71.eq_1, uu f71b43.eq_1, vv f71r44.eq_1, uu f71b45.eq_1, uu f71b46.eq_1, vv f71r47.eq_1, uu f71b48.eq_1]
   exact key _ rfl
 · obtain ⟨e1, e2⟩ := hpl rfl
   simp only [zD, strs_len, zL, l0, l1, p1, f0, f1, e1, e2, Qs, if_true, if_false, Int.reduceNeg, Nat.reduceAdd, Nat.reduceLeDiff, Nat.reduceBEq, uu f71.eq_1, uu f71b43.eq_1, vv f71r44.eq_1, uu f71b45.eq_1, uu f71b46.eq_1, vv f71r47.eq_1, uu f71b48.eq_1]
   exact key _ rfl
theorem zm2 {S : V → Prop} {X : V} (h : ∀ r, r.fz.nrm = X → S r) {c1 c2 : C} {l : Int} {b : Bool} {secs : List Txt} {pend : List Wr} (h1 : c1.norm = lstC 1 (strs secs)) (h2 : c2.norm = lstC 2 (wrs pend)) (hX : X = dV ⟨secs, pend, l, b⟩) : S (.agg [c1, c2, .int .i64 l, .bool b]) := by
 refine h _ ?_
 simp only [V.fz, V.nrm, C.normRow, h1, h2, sO, nF, hX, dV, zD]
def zI (x : Disk × Int) : V := .tup [dV x.1, .int .i64 x.2]
theorem zS {S : V → Prop} {X : V} (h : ∀ r, r.fz.nrm = X → S r) {c1 c2 : C} {l e : Int} {b : Bool} {secs : List Txt} {pend : List Wr} (h1 : c1.norm = lstC 1 (strs secs)) (h2 : c2.norm = lstC 2 (wrs pend)) (hX : X = zI (⟨secs, pend, l, b⟩, e)) : S (.tup [.agg [c1, c2, .int .i64 l, .bool b], .k (.c (.int .i64 e))]) := by
 refine h _ ?_
 simp only [V.fz, V.nrm, V.fzL, V.nrmL, Abs.K.fz, Abs.K.nrm, C.normRow, h1, h2, sO, nF, hX, zI, dV, zD]
theorem vO {S : V → Prop} {X : V} (h : ∀ r, r.fz.nrm = X → S r) {k1 k2 : K} {c1 c2 : C} {l e : Int} {b : Bool} {secs : List Txt} {pend : List Wr} (e1 : k1.fz = .c c1) (e2 : k2.fz = .c c2) (h1 : c1.norm = lstC 1 (strs secs)) (h2 : c2.norm = lstC 2 (wrs pend)) (hX : X = zI (⟨secs, pend, l, b⟩, e)) : S (.tup [.agk [k1, k2, .c (.int .i64 l), .c (.bool b)], .k (.c (.int .i64 e))]) := by
 refine h _ ?_
 have : V.fz (.agk [k1, k2, .c (.int .i64 l), .c (.bool b)]) = .agg [c1, c2, .int .i64 l, .bool b] := by
   simp only [V.fz, List.map_cons, List.map_nil, e1, e2]; rfl
 rw [show (V.tup [V.agk [k1, k2, K.c (C.int IntKind.i64 l), K.c (C.bool b)], V.k (K.c (C.int IntKind.i64 e))]).fz = .tup [V.fz (.agk [k1, k2, .c (.int .i64 l), .c (.bool b)]), .k (.c (.int .i64 e))] from rfl, this]
 simp only [V.nrmL, V.nrm, C.normRow, h1, h2, sO, nF, hX, zI, dV, zD, Abs.K.nrm]
theorem yR (l : List Txt) : (lstC 1 (strs l)).norm = lstC 1 (strs l) := by rw [xK, zA]
theorem yJ (l : List Wr) : (lstC 2 (wrs l)).norm = lstC 2 (wrs l) := by rw [xK, zB]
theorem b34 (d : Disk) (h : Right d) : Spec Tryz.prog 54 [dV d] (fun r => r = .int .i64 (if d.down = true then 8 else 0)) := by
 refine Spec.of_awlS hf54 okf54 (by simp) fun S hS => ?_
 have c37 := b37 d h
 obtain ⟨secs, pend, left, down⟩ := d
 simp only [dV, zD] at *
 simp only [zD, zA, zB, Qs, if_true, Nat.reduceAdd, Nat.reduceBEq, uu f54.eq_1, vv f54r11.eq_1, uu f54b12.eq_1, uu f54b13.eq_1, uu f54b14.eq_1, vv f54r15.eq_1, uu f54b16.eq_1]
 refine zJ c37 ?_
 cases down <;> simp only [Qs, if_false, List.nodup_nil, Nat.reduceAdd, Nat.reduceBEq, vv f54r1.eq_1, uu f54b2.eq_1, vv f54r5.eq_1, uu f54b6.eq_1, uu f54b7.eq_1, vv f54r8.eq_1, uu f54b9.eq_1, uu f54b10.eq_1] <;> exact hS
theorem b45 (d : Disk) (h : Right d) : Spec Tryz.prog 84 [dV d] (fun r => r = .int .i64 0) := by
 refine Spec.of_awlS hf84 okf84 (by simp) fun S hS => ?_
 have c37 := b37 d h
 obtain ⟨secs, pend, left, down⟩ := d
 simp only [dV, zD] at *
 simp only [zD, zA, zB, Qs, if_true, Nat.reduceAdd, Nat.reduceBEq, uu f84.eq_1, vv f84r6.eq_1, uu f84b7.eq_1, uu f84b8.eq_1, vv f84r9.eq_1, uu f84b10.eq_1]
 refine zJ c37 ?_
 simp only [Qs, List.nodup_nil, vv f84r1.eq_1, uu f84b2.eq_1, uu f84b5.eq_1]
 exact hS
theorem b35 (d : Disk) : Spec Tryz.prog 85 [dV d] (fun r => r = dV ⟨d.secs, [], -1, true⟩) := by
 refine Spec.of_awlP hf85 okf85 (by simp) fun S hS => ?_
 obtain ⟨secs, pend, left, down⟩ := d
 simp only [dV, zD] at *
 simp only [zD, zA, zB, Qs, if_true, bne_iff_ne, ne_eq, Int.reduceNeg, List.append_nil, List.nodup_nil, Nat.reduceAdd, Nat.reduceEqDiff, Nat.reduceLeDiff, Nat.reduceLT, Nat.reduceBEq, uu f85.eq_1, vv f85r1.eq_1, uu f85b2.eq_1, vv f85r3.eq_1, uu f85b4.eq_1, vv f85r5.eq_1, uu f85b6.eq_1]
 exact zm2 hS (yR _) (pend := []) rfl rfl
theorem b33 (d : Disk) (h : Right d) : Spec Tryz.prog 58 [dV d] (fun r => r = .int .i64 (yV d)) := by
 refine Spec.of_awlS hf58 okf58 (by simp) fun S hS => ?_
 have c45 := b45 d h
 obtain ⟨secs, pend, left, down⟩ := d
 unfold yV at hS
 simp only [dV, zD] at *
 simp only [zD, zA, zB, Qs, if_true, Nat.reduceAdd, Nat.reduceBEq, uu f58.eq_1, vv f58r16.eq_1, uu f58b17.eq_1, uu f58b18.eq_1, uu f58b19.eq_1, vv f58r20.eq_1, uu f58b21.eq_1]
 refine zJ c45 ?_
 cases down
 · by_cases hp : pend = []
   · have c : ¬ (pend.length : Int) > 0 := by simp [hp]
     simp only [zL, c, Qs, if_true, if_false, List.nodup_nil, Nat.reduceAdd, Nat.reduceLeDiff, Nat.reduceBEq, Int.reduceBNe, vv f58r1.eq_1, uu f58b2.eq_1, uu f58b9.eq_1, vv f58r10.eq_1, uu f58b11.eq_1, uu f58b12.eq_1, vv f58r13.eq_1, uu f58b14.eq_1, uu f58b15.eq_1]
     rw [if_neg (by simp), if_pos hp] at hS
     exact hS
   · have c : (pend.length : Int) > 0 := by have := List.length_pos_iff.2 hp; omega
     simp only [zL, c, Qs, if_true, if_false, List.nodup_nil, Nat.reduceAdd, Nat.reduceLeDiff, Nat.reduceBEq, Int.reduceBNe, vv f58r7.eq_1, uu f58b8.eq_1, uu f58b9.eq_1, vv f58r10.eq_1, uu f58b11.eq_1, uu f58b12.eq_1, vv f58r13.eq_1, uu f58b14.eq_1, uu f58b15.eq_1]
     rw [if_neg (by simp), if_neg hp] at hS
     exact hS
 · simp only [Qs, if_true, if_false, List.nodup_nil, Nat.reduceAdd, Nat.reduceBEq, Int.reduceBNe, vv f58r5.eq_1, uu f58b6.eq_1, uu f58b12.eq_1, vv f58r13.eq_1, uu f58b14.eq_1, uu f58b15.eq_1]
   exact hS
theorem wK (nl : Option Bool) (l : List Txt) : (C.list 1 nl (strs l)).norm = lstC 1 (strs l) := by rw [z6, zA]
theorem nW (nl : Option Bool) (l : List Wr) : (C.list 2 nl (wrs l)).norm = lstC 2 (wrs l) := by rw [z6, zB]
theorem b19 (d : Disk) (h : Right d) : Spec Tryz.prog 41 [dV d] (fun r => r = zI (startD d)) := by
 refine Spec.of_awlP hf41 okf41 (by simp) fun S hS => ?_
 have c37 := b37 d h
 have c36 := s36 d h
 obtain ⟨secs, pend, left, down⟩ := d
 unfold startD at hS
 simp only [dV, zD] at *
 simp only [zA, zB, Qs, if_true, bne_iff_ne, ne_eq, Nat.reduceAdd, Nat.reduceEqDiff, Nat.reduceBEq, uu f41.eq_1, vv f41r16.eq_1, uu f41b17.eq_1, uu f41b18.eq_1, vv f41r19.eq_1, uu f41b20.eq_1]
 refine zJ c37 ?_
 cases down
 · simp only [zA, zB, Qs, if_true, if_false, List.append_nil, List.nodup_nil, Nat.reduceAdd, Nat.reduceLT, Nat.reduceBEq, vv f41r7.eq_1, uu f41b8.eq_1, uu f41b9.eq_1, vv f41r10.eq_1, uu f41b11.eq_1, uu f41b12.eq_1, uu f41b15.eq_1]
   exact zS hS (secs := []) (pend := []) rfl rfl rfl
 · simp only [zA, zB, Qs, if_true, if_false, Nat.reduceAdd, Nat.reduceBEq, vv f41r5.eq_1, uu f41b6.eq_1, uu f41b9.eq_1, vv f41r10.eq_1, uu f41b11.eq_1, uu f41b12.eq_1, uu f41b15.eq_1]
   refine zT c36 ?_
   simp only [zA, zB, Qs, qO, o9, nA, nB, nC, qQ, qR, if_true, or_true, bne_iff_ne, ne_eq, List.append_nil, List.mem_cons, List.nodup_nil, List.nodup_cons, Nat.reduceAdd, Nat.reduceMul, Nat.reduceEqDiff, Nat.reduceLT, Nat.reduceBEq, List.not_mem_nil, vv f41r1.eq_1, uu f41b2.eq_1, vv f41r3.eq_1, uu f41b4.eq_1]
   exact vO hS rfl rfl (wK _ _) (nW _ _) rfl
theorem b23 (d : Disk) (h : Right d) (k : Int) : Spec Tryz.prog 28 [dV d, .int .i64 k] (fun r => r = zI (nN d k)) := by
 refine Spec.of_awlP hf28 okf28 (by simp) fun S hS => ?_
 have c34 := b34 d h
 have c36 := s36 d h
 obtain ⟨secs, pend, left, down⟩ := d
 unfold nN at hS
 simp only [dV, zD] at *
 simp only [zA, zB, Qs, if_true, bne_iff_ne, ne_eq, Nat.reduceAdd, Nat.reduceEqDiff, Nat.reduceBEq, uu f28.eq_1, vv f28r18.eq_1, uu f28b19.eq_1, uu f28b20.eq_1, vv f28r21.eq_1, uu f28b22.eq_1]
 refine zJ c34 ?_
 cases down
 · by_cases h1 : k < 0
   · simp only [h1, zA, zB, Qs, if_true, if_false, List.append_nil, List.nodup_nil, Nat.reduceAdd, Nat.reduceLT, Nat.reduceBEq, Int.reduceBNe, vv f28r7.eq_1, uu f28b8.eq_1, uu f28b9.eq_1, vv f28r10.eq_1, uu f28b11.eq_1, uu f28b12.eq_1, uu f28b15.eq_1, vv f28r16.eq_1, uu f28b17.eq_1]
     rw [if_neg (by simp), if_pos (.inl h1)] at hS
     exact zS hS (secs := []) (pend := []) rfl rfl rfl
   · by_cases h2 : k > 512
     · simp only [h1, h2, zA, zB, Qs, if_true, if_false, List.append_nil, List.nodup_nil, Nat.reduceAdd, Nat.reduceLT, Nat.reduceBEq, Int.reduceBNe, vv f28r7.eq_1, uu f28b8.eq_1, uu f28b9.eq_1, vv f28r10.eq_1, uu f28b11.eq_1, uu f28b12.eq_1, uu f28b15.eq_1, vv f28r16.eq_1, uu f28b17.eq_1]
       rw [if_neg (by simp), if_pos (.inr h2)] at hS
       exact zS hS (secs := []) (pend := []) rfl rfl rfl
     · simp only [h1, h2, zA, zB, Qs, if_true, if_false, Nat.reduceAdd, Nat.reduceBEq, Int.reduceBNe, vv f28r5.eq_1, uu f28b6.eq_1, uu f28b9.eq_1, vv f28r10.eq_1, uu f28b11.eq_1, uu f28b12.eq_1, uu f28b15.eq_1, vv f28r16.eq_1, uu f28b17.eq_1]
       rw [if_neg (by simp), if_neg (fun h => h.elim h1 h2)] at hS
       refine zT c36 ?_
       simp only [zA, zB, Qs, qO, o9, nA, nB, nC, qQ, qR, if_true, or_true, bne_iff_ne, ne_eq, List.append_nil, List.mem_cons, List.nodup_nil, List.nodup_cons, Nat.reduceAdd, Nat.reduceMul, Nat.reduceEqDiff, Nat.reduceLeDiff, Nat.reduceLT, Nat.reduceBEq, List.not_mem_nil, vv f28r1.eq_1, uu f28b2.eq_1, vv f28r3.eq_1, uu f28b4.eq_1]
       exact vO hS rfl rfl (wK _ _) (nW _ _) rfl
 · simp only [zA, zB, Qs, if_true, List.append_nil, List.nodup_nil, Nat.reduceAdd, Nat.reduceLT, Nat.reduceBEq, Int.reduceBNe, vv f28r13.eq_1, uu f28b14.eq_1, uu f28b15.eq_1, vv f28r16.eq_1, uu f28b17.eq_1]
   exact zS hS (secs := []) (pend := []) rfl rfl rfl
theorem b28 (d : Disk) (h : Right d) (i : Int) (s : Txt) : Spec Tryz.prog 59 [dV d, .int .i64 i, .str s] (fun r => r = zI (x8 d i s)) := by
 refine Spec.of_awlP hf59 okf59 (by simp) fun S hS => ?_
 have c34 := b34 d h
 have c36 := s36 d h
 have hpe := h.pe
 obtain ⟨secs, pend, left, down⟩ := d
 unfold x8 at hS
 simp only [dV, zD] at *
 simp only [zA, zB, Qs, if_true, bne_iff_ne, ne_eq, Nat.reduceAdd, Nat.reduceEqDiff, Nat.reduceBEq, uu f59.eq_1, vv f59r24.eq_1, uu f59b25.eq_1, uu f59b26.eq_1, vv f59r27.eq_1, uu f59b28.eq_1]
 refine zJ c34 ?_
 cases down
 · rw [if_neg (by simp)] at hS
   by_cases h1 : i < 0
   · simp only [h1, zA, zB, Qs, if_true, if_false, List.append_nil, List.nodup_nil, Nat.reduceAdd, Nat.reduceLT, Nat.reduceBEq, Int.reduceBNe, vv f59r13.eq_1, uu f59b14.eq_1, uu f59b15.eq_1, vv f59r16.eq_1, uu f59b17.eq_1, uu f59b18.eq_1, uu f59b21.eq_1, vv f59r22.eq_1, uu f59b23.eq_1]
     rw [if_pos (.inl h1)] at hS
     exact zS hS (secs := []) (pend := []) rfl rfl rfl
   by_cases h2 : i ≥ secs.length
   · simp only [h1, h2, strs_len, zA, zB, Qs, if_true, if_false, List.append_nil, List.nodup_nil, Nat.reduceAdd, Nat.reduceLeDiff, Nat.reduceLT, Nat.reduceBEq, Int.reduceBNe, vv f59r13.eq_1, uu f59b14.eq_1, uu f59b15.eq_1, vv f59r16.eq_1, uu f59b17.eq_1, uu f59b18.eq_1, uu f59b21.eq_1, vv f59r22.eq_1, uu f59b23.eq_1]
     rw [if_pos (.inr (.inl h2))] at hS
     exact zS hS (secs := []) (pend := []) rfl rfl rfl
   by_cases h3 : (s.length : Int) > 16
   · simp only [h1, h2, h3, strs_len, zA, zB, Qs, if_true, if_false, List.append_nil, List.nodup_nil, Nat.reduceAdd, Nat.reduceLeDiff, Nat.reduceLT, Nat.reduceBEq, Int.reduceBNe, vv f59r13.eq_1, uu f59b14.eq_1, uu f59b15.eq_1, vv f59r16.eq_1, uu f59b17.eq_1, uu f59b18.eq_1, uu f59b21.eq_1, vv f59r22.eq_1, uu f59b23.eq_1]
     rw [if_pos (.inr (.inr (by omega)))] at hS
     exact zS hS (secs := []) (pend := []) rfl rfl rfl
   rw [if_neg (fun h => h.elim h1 fun h => h.elim h2 fun h => h3 (by omega))] at hS
   by_cases h4 : (pend.length : Int) = 512
   · simp only [h1, h2, h3, h4, strs_len, zL, zA, zB, Qs, if_true, if_false, BEq.rfl, List.append_nil, List.nodup_nil, Nat.reduceAdd, Nat.reduceLeDiff, Nat.reduceLT, Nat.reduceBEq, Int.reduceBNe, vv f59r7.eq_1, uu f59b8.eq_1, uu f59b9.eq_1, vv f59r10.eq_1, uu f59b11.eq_1, uu f59b12.eq_1, uu f59b15.eq_1, vv f59r16.eq_1, uu f59b17.eq_1, uu f59b18.eq_1, uu f59b21.eq_1, vv f59r22.eq_1, uu f59b23.eq_1]
     rw [if_pos (by omega)] at hS
     exact zS hS (secs := []) (pend := []) rfl rfl rfl
   rw [if_neg (by omega)] at hS
   have c43 := s43 (16 - s.length) (by omega)
   rw [show ((16 - s.length : Nat) : Int) = 16 - (s.length : Int) by omega] at c43
   have c5 : IntKind.i64.wrap (16 - (s.length : Int)) = 16 - (s.length : Int) := wrap_in (by omega) (by omega)
   simp only [h1, h2, h3, h4, c5, strs_len, zL, zA, zB, Qs, if_true, if_false, forall_const, List.append_nil, List.nodup_nil, Nat.reduceAdd, Nat.reduceLeDiff, Nat.reduceLT, Nat.reduceBEq, Int.reduceBNe, vv f59r5.eq_1, uu f59b6.eq_1, vv f59r7.eq_1, uu f59b8.eq_1, uu f59b9.eq_1, vv f59r10.eq_1, uu f59b11.eq_1, uu f59b12.eq_1, uu f59b15.eq_1, vv f59r16.eq_1, uu f59b17.eq_1, uu f59b18.eq_1, uu f59b21.eq_1, vv f59r22.eq_1, uu f59b23.eq_1]
   refine zT c36 ?_
   simp only [h1, h2, h3, h4, c5, strs_len, zL, zA, zB, Qs, oZ, qO, o9, nA, nB, nC, qQ, qR, if_true, if_false, or_true, bne_iff_ne, ne_eq, List.append_nil, Nat.reduceAdd, Nat.reduceMul, Nat.reduceEqDiff, Nat.reduceLeDiff, Nat.reduceBEq, vv f59r3.eq_1, uu f59b4.eq_1]
   refine ⟨rfl, _, c43, .inl rfl, ?_⟩
   simp only [h1, h2, h3, h4, c5, strs_len, zL, zA, zB, Qs, zkx, kP, kQ, kT, kU, kV, zkT, kW, rN, rO, qP, kY, if_true, if_false, reduceCtorEq, forall_eq, List.append_nil, List.mem_cons, List.nodup_nil, List.nodup_cons, Nat.reduceAdd, Nat.reduceEqDiff, Nat.reduceLeDiff, Nat.reduceLT, Nat.reduceBEq, List.not_mem_nil, vv f59r1.eq_1, uu f59b2.eq_1]
   rw [show wrs pend ++ [[C.int IntKind.i64 i, C.str (s ++ yM (16 - s.length))]] = wrs (pend ++ [⟨i, s ++ yM (16 - s.length)⟩]) from j9 pend ⟨i, _⟩, zB]
   exact ⟨by rw [yM, List.length_replicate]; omega, by omega, by omega, vO hS rfl rfl (wK _ _) (nW _ _) rfl⟩
 · simp only [zA, zB, Qs, if_true, List.append_nil, List.nodup_nil, Nat.reduceAdd, Nat.reduceLT, Nat.reduceBEq, Int.reduceBNe, vv f59r19.eq_1, uu f59b20.eq_1, uu f59b21.eq_1, vv f59r22.eq_1, uu f59b23.eq_1]
   exact zS hS (secs := []) (pend := []) rfl rfl rfl
theorem zhX : ∀ (ws : List Wr) (l : List Txt) (w : Wr), zN l (ws ++ [w]) = (zN l ws).set w.pos.toNat w.text
 | [], l, w => rfl
 | x :: ws, l, w => by rw [List.cons_append, zN, zN, zhX ws]
theorem zhY {pend : List Wr} {l : List Txt} {j : Nat} (h : j < pend.length) : zN l (pend.take (j + 1)) = (zN l (pend.take j)).set (pend[j].pos.toNat) pend[j].text := by
 rw [List.take_add_one, List.getElem?_eq_getElem h]
 exact zhX _ _ _
theorem zm3 {p : Prop} (h : p ∨ False) : p := h.elim id False.elim
theorem nX (l : List Txt) (i : Nat) (t : Txt) : (strs l).set i [.str t] = strs (l.set i t) := by simp [strs, x7, List.map_set]
theorem b29 (d : Disk) (h : Right d) : Spec Tryz.prog 61 [dV d] (fun r => r = zI (flushD d)) := by
 refine Spec.of_awlP hf61 okf61 (by simp) fun S hS => ?_
 have c34 := b34 d h
 have c36 := s36 d h
 have hpe := h.pe
 have hwr := h.wr
 have hse := h.se
 have hL0 := h.l0
 have hL1 := h.l1
 obtain ⟨secs, pend, left, down⟩ := d
 unfold flushD at hS
 simp only [dV, zD] at *
 simp only [zA, zB, Qs, if_true, bne_iff_ne, ne_eq, Nat.reduceAdd, Nat.reduceEqDiff, Nat.reduceBEq, uu f61.eq_1, vv f61r51.eq_1, uu f61b52.eq_1, uu f61b53.eq_1, vv f61r54.eq_1, uu f61b55.eq_1]
 refine zJ c34 ?_
 cases down
 · rw [if_neg (by simp)] at hS
   have key : ∀ (n : Nat) (al : Bool) ts os, n ≤ pend.length → keepT ts [1, 2, 5, 6, 37, 38, 39] = [(1, .k (.ptr 1 0)), (2, .k (.ptr 2 0)), (5, .int .i64 n), (6, .bool al), (37, V.list 2 none (wrs (pend.take n))), (38, .int .i64 n), (39, .int .i64 (0 : Nat))] →
       keepO os [1, 2, 17, 75, 18000, 18001, 18002, 76000, 76001, 76002] = [(1, .var 25 [.own 18000, .c (.list 2 none (wrs pend)), .c (.int .i64 left), .c (.bool false)]), (2, .var 25 [.c (.list 0 (some true) []), .c (.list 0 (some true) []), .c (.int .i64 0), .c (.bool false)]), (18000, .arr 9 1 none (strs secs))] →
       (if al = true then n = pend.length ∧ ¬ (0 ≤ left ∧ left < pend.length) else left = n ∧ n < pend.length) →
       awl Tryz.prog f61l30 (AE.inBlockL 0 (AE.thenL (awl Tryz.prog f61b19 (endK [RX.cell 2 4 true, RX.t 3] S)) (endK [RX.cell 2 4 true, RX.t 3] S))) ts os := by
     intro n al ts os hn hts hos hal
     rw [zlA]
     refine zU (fun j : Nat => [(1, .k (.ptr 1 0)), (2, .k (.ptr 2 0)), (5, .int .i64 n), (6, .bool al), (37, V.list 2 none (wrs (pend.take n))), (38, .int .i64 n), (39, .int .i64 j)])
       (fun j => [(1, .var 25 [.own 18000, .c (.list 2 none (wrs pend)), .c (.int .i64 left), .c (.bool false)]), (2, .var 25 [.c (.list 0 (some true) []), .c (.list 0 (some true) []), .c (.int .i64 0), .c (.bool false)]), (18000, .arr 9 1 none (strs (zN secs (pend.take j))))])
       (fun j => j ≤ n) (fun j => n - j) 0 hts hos (Nat.zero_le _) ?_
     intro j hj
     by_cases hlt : j < n
     · have c1 : (j : Int) < n := by omega
       have c4 : IntKind.i64.wrap ((j : Int) + 1) = (j : Int) + 1 := wrap_in (by omega) (by omega)
       have hjp : j < (pend.take n).length := by rw [List.length_take]; omega
       obtain ⟨w0, w1, w2⟩ := hwr _ (List.getElem_mem (show j < pend.length by omega))
       have e1 : (wrs (pend.take n)).getD j [] = [.int .i64 pend[j].pos, .str pend[j].text] := by rw [xP hjp, List.getElem_take]
       obtain ⟨q, hq⟩ : ∃ q : Nat, pend[j].pos = q := ⟨pend[j].pos.toNat, by omega⟩
       have hq1 : q < secs.length := by omega
       simp only [strs_len, zL, c1, c4, e1, hq, Qs, zd4, o3, o4, o5, o6, if_true, if_false, bne_iff_ne, ne_eq, List.append_nil, Nat.reduceAdd, Nat.reduceEqDiff, Nat.reduceLeDiff, Nat.reduceBEq, vv f61r20.eq_1, vv f61r21.eq_1, vv f61r22.eq_1, uu f61b23.eq_1, uu f61b24.eq_1, uu f61b25.eq_1, uu f61b26.eq_1, uu f61b27.eq_1, vv f61r28.eq_1, uu f61b29.eq_1]
       have e2 : (strs (zN secs (List.take j pend))).set q [C.str pend[j].text] = strs (zN secs (List.take (j + 1) pend)) := by
         rw [nX, zhY (show j < pend.length by omega), hq, Int.toNat_natCast]
       rw [e2, uD]
       exact ⟨by omega, by omega, Next.intro (j + 1) rfl rfl (by omega) (by omega)⟩
     · obtain rfl : j = n := by omega
       have c1 : ¬ (j : Int) < j := by omega
       cases al
       · rw [if_neg (by simp)] at hal
         obtain ⟨hl, hjp⟩ := hal
         obtain ⟨w0, w1, w2⟩ := hwr _ (List.getElem_mem hjp)
         have e1 := xP hjp
         obtain ⟨q, hq⟩ : ∃ q : Nat, pend[j].pos = q := ⟨pend[j].pos.toNat, by omega⟩
         have hq1 : q < secs.length := by omega
         have hpl := uD (pend.take j) secs
         have e3 := zX (l := zN secs (pend.take j)) (i := q) (by omega)
         have hps : ((zN secs (pend.take j))[q]'(by omega)).length = 16 := rV (pend.take j) secs hse (fun w hw => (hwr w (List.mem_of_mem_take hw)).2.2) _ (List.getElem_mem _)
         simp only [c1, e1, hq, e3, strs_len, zL, Qs, rJ, zdY, zd0, zd3, zd4, o3, o4, o5, o6, if_true, if_false, bne_iff_ne, ne_eq, List.append_nil, Nat.reduceAdd, Nat.reduceEqDiff, Nat.reduceLeDiff, Nat.reduceBEq, Int.reduceLE, Int.reduceToNat, vv f61r10.eq_1, uu f61b11.eq_1, vv f61r12.eq_1, uu f61b13.eq_1, vv f61r14.eq_1, uu f61b15.eq_1, uu f61b16.eq_1, vv f61r17.eq_1, uu f61b18.eq_1, uu f61b19.eq_1, uu f61b26.eq_1, uu f61b27.eq_1, vv f61r28.eq_1, uu f61b29.eq_1]
         have e4 : (strs (zN secs (pend.take j))).set q [C.str (pend[j].text.take 8 ++ ((zN secs (pend.take j))[q]'(by omega)).drop 8)] = strs ((zN secs (pend.take j)).set q (pend[j].text.take 8 ++ ((zN secs (pend.take j))[q]'(by omega)).drop 8)) := nX _ _ _
         rw [List.take_length, e4, hps, w2]
         refine ⟨by omega, by decide, by omega, ⟨by decide, by decide⟩, by simp only [List.length_take, List.length_drop, hps, w2]; decide, by omega, ?_⟩
         refine zkr 18000 (by simp [look, lookT]) (by simp [V.hard, V.toks, Abs.K.toks]) (by simp [lookO, vH]) ?_
         simp only [Qs, if_true, if_false, Nat.reduceEqDiff, nD, zgI, qT, sK, zkZ, zgK, sL, zk1, qV]
         refine zm3 (zT (b35 ⟨(zN secs (pend.take j)).set q (pend[j].text.take 8 ++ ((zN secs (pend.take j))[q]'(by omega)).drop 8), pend, left, false⟩) ?_ (ha := by simp [zH, V.norm, C.normRow, zD, z6, xK, zA, zB]))
         simp only [dV, zD, zA, zB, Qs, if_true, Int.reduceNeg, List.append_nil, List.nodup_nil, Nat.reduceAdd, Nat.reduceMul, Nat.reduceLT, Nat.reduceBEq]
         subst hl
         rw [if_pos (by omega), Int.toNat_natCast, List.getD_eq_getElem?_getD, List.getElem?_eq_getElem hjp, Option.getD_some, hq, Int.toNat_natCast, List.getD_eq_getElem?_getD, List.getElem?_eq_getElem (show q < (zN secs (pend.take j)).length by omega), Option.getD_some] at hS
         exact zS hS (yR _) (yJ []) rfl
       · rw [if_pos rfl] at hal
         obtain ⟨rfl, hl⟩ := hal
         rw [if_neg hl, List.take_length] at *
         simp only [c1, zA, List.take_length, Qs, if_true, if_false, List.append_nil, List.nodup_nil, List.nodup_cons, Nat.reduceAdd, Nat.reduceLeDiff, Nat.reduceLT, Nat.reduceBEq, List.not_mem_nil, vv f61r1.eq_1, uu f61b2.eq_1, vv f61r3.eq_1, uu f61b4.eq_1, vv f61r5.eq_1, uu f61b6.eq_1, uu f61b7.eq_1, vv f61r8.eq_1, uu f61b9.eq_1, uu f61b16.eq_1, vv f61r17.eq_1, uu f61b18.eq_1, uu f61b19.eq_1, uu f61b26.eq_1, uu f61b27.eq_1, vv f61r28.eq_1, uu f61b29.eq_1]
         have c5 : IntKind.i64.wrap (left - pend.length) = left - pend.length := wrap_in (by omega) (by omega)
         rw [c5]
         refine ⟨fun h0 => ?_, fun h0 => ?_⟩
         · rw [if_pos h0] at hS
           exact vO hS rfl rfl (wK _ _) (yJ [] : _) rfl
         · rw [if_neg h0] at hS
           obtain rfl : left = -1 := by omega
           exact vO hS rfl rfl (wK _ _) (yJ [] : _) rfl
   simp only [zA, zB, Qs, if_true, if_false, Nat.reduceAdd, Nat.reduceBEq, Int.reduceBNe, vv f61r44.eq_1, uu f61b45.eq_1, uu f61b48.eq_1, vv f61r49.eq_1, uu f61b50.eq_1]
   refine zT c36 ?_
   simp only [zL, zA, zB, Qs, zcG, qO, zdQ, zkL, zkM, ze7, ze8, o9, nA, nB, nC, qQ, qR, if_true, if_false, true_or, or_true, bne_iff_ne, ne_eq, Int.reduceNeg, List.append_nil, Nat.reduceAdd, Nat.reduceMul, Nat.reduceEqDiff, Nat.reduceLeDiff, Nat.reduceBEq, Int.reduceLE, nD, qT, kZ, sK, qU, zk0, zgK, sL, qV, uu f61b31.eq_1, vv f61r32.eq_1, uu f61b33.eq_1, uu f61b34.eq_1, vv f61r35.eq_1, uu f61b36.eq_1, vv f61r37.eq_1, uu f61b38.eq_1, uu f61b39.eq_1, vv f61r40.eq_1, uu f61b41.eq_1, vv f61r42.eq_1, uu f61b43.eq_1]
   rw [show (List.take pend.length (wrs pend)) = wrs (pend.take pend.length) from (List.map_take ..).symm]
   rw [zL, List.length_take, Nat.min_self]
   refine ⟨fun h1 => ⟨by omega, key pend.length true _ _ (Nat.le_refl _) rfl rfl (by rw [if_pos rfl]; omega)⟩, fun h1 => ⟨fun h2 => ⟨by omega, ?_⟩, fun h2 => ?_⟩⟩
   · rw [show decide (left ≥ (pend.length : Int)) = true from decide_eq_true h2]
     exact key pend.length true _ _ (Nat.le_refl _) rfl rfl (by rw [if_pos rfl]; omega)
   · obtain ⟨k, rfl⟩ : ∃ k : Nat, left = k := ⟨left.toNat, by omega⟩
     rw [show decide ((k : Int) ≥ (pend.length : Int)) = false from decide_eq_false h2, Int.toNat_natCast, show (List.take k (wrs pend)) = wrs (pend.take k) from (List.map_take ..).symm, zL, List.length_take, Nat.min_eq_left (by omega)]
     exact ⟨by omega, key k false _ _ (by omega) rfl rfl (by rw [if_neg (by simp)]; exact ⟨rfl, by omega⟩)⟩
 · simp only [zA, zB, Qs, if_true, List.append_nil, List.nodup_nil, Nat.reduceAdd, Nat.reduceLT, Nat.reduceBEq, Int.reduceBNe, vv f61r46.eq_1, uu f61b47.eq_1, uu f61b48.eq_1, vv f61r49.eq_1, uu f61b50.eq_1]
   exact zS hS (secs := []) (pend := []) rfl rfl rfl
def vP (r : Option Nat) : V := match r with
 | some n => .tup [.int .i64 n, .bool true]
 | none => .tup [.int .i64 0, .bool false]
theorem iA (l : Txt) (c : UInt8) : xL (l ++ [c]) = xL l * 10 + (c.toNat - 48) := by simp [xL, List.foldl_append]
theorem iB : ∀ (k : Nat) (l : Txt), l.length = k → l.all xA = true → xL l < 10 ^ k
 | 0, l, h, _ => by
   obtain rfl : l = [] := List.eq_nil_of_length_eq_zero h
   simp [xL]
 | k + 1, l, h, hd => by
   obtain ⟨l', c, rfl⟩ : ∃ l' c, l = l' ++ [c] := ⟨l.dropLast, l.getLast (by rintro rfl; simp at h), (List.dropLast_concat_getLast _).symm⟩
   rw [List.all_append, Bool.and_eq_true] at hd
   have h2 : xA c = true := by simpa using hd.2
   simp only [xA, decide_eq_true_eq] at h2
   have := iB k l' (by simpa using h) hd.1
   rw [iA, Nat.pow_succ]
   omega
theorem iC {s : Txt} {i : Nat} (h : i < s.length) : s.take (i + 1) = s.take i ++ [s.getD i 0] := by
 rw [List.take_add_one, List.getD_eq_getElem?_getD, List.getElem?_eq_getElem h]; rfl
theorem b40 (s : Txt) (h : s.length = 16) : Spec Tryz.prog 88 [.str s] (fun r => r = vP (yF s)) := by
 refine Spec.of_awlS hf88 okf88 (by simp) fun S hS => ?_
 unfold yF at hS
 have b1 : (8 : Int) ≤ s.length := by omega
 simp only [b1, h, Qs, rJ, List.append_nil, List.nodup_nil, Nat.reduceBEq, Int.reduceLE, Int.reduceToNat, uu f88.eq_1, uu f88b20.eq_1, vv f88r21.eq_1, uu f88b22.eq_1, uu f88b23.eq_1, vv f88r24.eq_1, uu f88b25.eq_1, vv f88r26.eq_1, uu f88b27.eq_1, uu f88b28.eq_1, vv f88r29.eq_1, uu f88b30.eq_1, uu f88b31.eq_1, vv f88r32.eq_1, uu f88b33.eq_1]
 rw [List.take_of_length_le (by omega : s.length ≤ 16)]
 refine ⟨fun he => ?_, fun he => ?_⟩
 · rw [zlJ]
   refine zU (fun i : Nat => [(0, .str s), (4, .int .i64 (xL (s.take i) : Nat)), (11, .int .i64 i)]) (fun _ => [])
     (fun i => i ≤ 8 ∧ (s.take i).all xA = true) (fun i => 8 - i) 0 rfl rfl ⟨by decide, rfl⟩ ?_
   rintro i ⟨hi, hd⟩
   by_cases hlt : i < 8
   · have c1 : (i : Int) < 8 := by omega
     have c2 : (i : Int) < s.length := by omega
     have c4 : IntKind.i64.wrap ((i : Int) + 1) = (i : Int) + 1 := wrap_in (by omega) (by omega)
     simp only [c1, c2, c4, h, Qs, rH, rM, if_true, if_false, List.append_nil, List.nodup_nil, Nat.reduceBEq, vv f88r3.eq_1, vv f88r4.eq_1, vv f88r5.eq_1, uu f88b6.eq_1, uu f88b7.eq_1, vv f88r8.eq_1, uu f88b9.eq_1, uu f88b10.eq_1, vv f88r11.eq_1, uu f88b12.eq_1, uu f88b13.eq_1, uu f88b14.eq_1, uu f88b15.eq_1, uu f88b16.eq_1, vv f88r17.eq_1, uu f88b18.eq_1]
     have hts := iC (s := s) (i := i) (by omega)
     have hval : (xL (s.take i)) < 10 ^ i := iB i _ (by rw [List.length_take]; omega) hd
     have hval8 : xL (s.take i) < 100000000 := Nat.lt_of_lt_of_le hval (Nat.pow_le_pow_right (n := 10) (by decide) hi)
     have hmem : xA (s.getD i 0) = false → (s.take 8).all xA = false := by
       intro hc
       rw [List.all_eq_false]
       refine ⟨s.getD i 0, ?_, by rw [hc]; simp⟩
       rw [List.getD_eq_getElem?_getD, List.getElem?_eq_getElem (show i < s.length by omega), Option.getD_some, List.mem_take_iff_getElem]
       exact ⟨i, by omega, rfl⟩
     generalize hcc : s.getD i 0 = c at hts hmem
     generalize hm : xL (s.take i) = m at hval8 ⊢
     have hbad : xA c = false → S (V.tup [V.k (K.c (C.int IntKind.i64 0)), V.k (K.c (C.bool false))]) := by
       intro hc
       rw [if_neg (fun h => by rw [hmem hc] at h; exact absurd h.2 (by simp))] at hS
       exact hS
     refine ⟨by omega, fun g => hbad ?_, fun g1 => ⟨by omega, fun g => hbad ?_, fun g2 => ⟨by omega, ?_⟩⟩⟩
     · simp [xA]; omega
     · simp [xA]; omega
     · have w1 : IntKind.u8.wrap ((c.toNat : Int) - 48) = (c.toNat : Int) - 48 := by unfold IntKind.wrap; simp [IntKind.signed, IntKind.bits]; omega
       have w2 : IntKind.i64.wrap ((c.toNat : Int) - 48) = (c.toNat : Int) - 48 := wrap_in (by omega) (by omega)
       have w3 : IntKind.i64.wrap (10 * (m : Int)) = 10 * (m : Int) := wrap_in (by omega) (by omega)
       have w4 : IntKind.i64.wrap (10 * (m : Int) + ((c.toNat : Int) - 48)) = ((m * 10 + (c.toNat - 48) : Nat) : Int) := by rw [wrap_in (by omega) (by omega)]; omega
       have e : m * 10 + (c.toNat - 48) = xL (s.take (i + 1)) := by rw [hts, iA, hm]
       have hd2 : (s.take (i + 1)).all xA = true := by
         rw [hts, List.all_append, hd]
         simp [xA]
         omega
       rw [w1, w2, w3, w4, e]
       exact Next.intro (i + 1) rfl rfl ⟨by omega, hd2⟩ (by omega)
   · obtain rfl : i = 8 := by omega
     have c1 : ¬ ((8 : Nat) : Int) < 8 := by omega
     simp only [c1, Qs, if_true, List.append_nil, List.nodup_nil, Nat.reduceBEq, Int.reduceLT, vv f88r1.eq_1, uu f88b2.eq_1, uu f88b15.eq_1, uu f88b16.eq_1, vv f88r17.eq_1, uu f88b18.eq_1]
     rw [if_pos ⟨he, hd⟩] at hS
     exact hS
 · rw [if_neg (fun h => he h.1)] at hS
   exact hS
theorem uE {P : Program} {f : FuncId} {vs args : List V} {r : V} {K : KK} {d : Nat} {ts : TS} {os : OS} (hs : Spec P f args (fun r' => r' = r)) (hk : K (insT d r.fz ts) os)
   (hp : vs.all (fun v => (zH os v).isPure) = true) (ha : vs.map (fun v => (zH os v).norm) = args) (ht : vs.all (fun v => v.toks.isEmpty) = true) : rF P f vs [] K d ts os :=
 ⟨hp, r, by simpa [ha] using hs, .inr ht, hk⟩
theorem wL {secs : List Txt} {pend : List Wr} {left : Int} {i : Int} {t : Txt} (h : Right ⟨secs, pend, left, false⟩) (h0 : 0 ≤ i) (h1 : i < secs.length) (ht : t.length = 16) (hp : pend.length < 512) : Right ⟨secs, pend ++ [⟨i, t⟩], left, false⟩ := by
 refine ⟨h.lo, h.hi, ?_, h.l0, h.l1, fun h => (by cases h), h.se, fun w hw => ?_⟩
 · show (pend ++ [_]).length ≤ 512
   rw [List.length_append, List.length_singleton]; omega
 · rcases List.mem_append.1 hw with hw | hw
   · exact h.wr w hw
   · simp at hw; subst hw; exact ⟨h0, h1, ht⟩
theorem b17 (d : Disk) (h : Right d) : Spec Tryz.prog 32 [dV d] (fun r => r = zI (formatJ d)) := by
 refine Spec.of_awlP hf32 okf32 (by simp) fun S hS => ?_
 have c33 := b33 d h
 obtain ⟨secs, pend, left, down⟩ := d
 unfold formatJ at hS
 simp only [dV, zD] at *
 simp only [zA, zB, Qs, if_true, bne_iff_ne, ne_eq, Nat.reduceAdd, Nat.reduceEqDiff, Nat.reduceBEq, uu f32.eq_1, vv f32r29.eq_1, uu f32b30.eq_1, uu f32b31.eq_1, vv f32r32.eq_1, uu f32b33.eq_1]
 refine zJ c33 ?_
 by_cases hr : yV ⟨secs, pend, left, down⟩ = 0
 · rw [if_neg (by simp [hr])] at hS
   by_cases h2 : (secs.length : Int) ≤ 2
   · simp only [hr, h2, strs_len, zA, zB, Qs, if_true, if_false, List.append_nil, List.nodup_nil, Nat.reduceAdd, Nat.reduceLeDiff, Nat.reduceLT, Nat.reduceBEq, Int.reduceBNe, vv f32r18.eq_1, uu f32b19.eq_1, uu f32b20.eq_1, vv f32r21.eq_1, uu f32b22.eq_1, uu f32b23.eq_1, uu f32b26.eq_1, vv f32r27.eq_1, uu f32b28.eq_1]
     rw [if_pos (show secs.length ≤ 2 by omega)] at hS
     exact zS hS (secs := []) (pend := []) rfl rfl rfl
   · rw [if_neg (show ¬ secs.length ≤ 2 by omega)] at hS
     simp only [hr, h2, strs_len, zA, zB, Qs, if_true, if_false, Nat.reduceAdd, Nat.reduceLeDiff, Nat.reduceBEq, Int.reduceBNe, uu f32b14.eq_1, vv f32r15.eq_1, uu f32b16.eq_1, uu f32b17.eq_1, uu f32b20.eq_1, vv f32r21.eq_1, uu f32b22.eq_1, uu f32b23.eq_1, uu f32b26.eq_1, vv f32r27.eq_1, uu f32b28.eq_1]
     obtain ⟨hdn, rfl⟩ : down = false ∧ pend = [] := by
       unfold yV at hr
       simp only [] at hr
       cases down
       · refine ⟨rfl, ?_⟩
         by_cases hp : pend = []
         · exact hp
         · rw [if_neg (by simp), if_neg hp] at hr; cases hr
       · simp at hr
     subst hdn
     obtain ⟨D, hD0, hD1, hD2⟩ : ∃ D : Nat → List Wr, D 0 = [] ∧ D 1 = [⟨0, hdr 0⟩] ∧ D 2 = [⟨0, hdr 0⟩, ⟨1, hdr 0⟩] := ⟨fun i => List.take i [⟨0, hdr 0⟩, ⟨1, hdr 0⟩], rfl, rfl, rfl⟩
     have hlen : (hdr 0).length = 16 := x9 0
     have hR0 : Right ⟨secs, D 0, left, false⟩ := by rw [hD0]; exact h
     have hR1 : Right ⟨secs, D 1, left, false⟩ := by rw [hD1]; exact wL h (by omega) (by omega) hlen (by simp)
     have hR2 : Right ⟨secs, D 2, left, false⟩ := by rw [hD2]; exact wL (pend := [⟨0, hdr 0⟩]) (by rw [← hD1]; exact hR1) (by omega) (by omega) hlen (by simp)
     have hw : ∀ i, i < 2 → Right ⟨secs, D i, left, false⟩ ∧ x8 ⟨secs, D i, left, false⟩ i (hdr 0) = (⟨secs, D (i + 1), left, false⟩, 0) := by
       intro i hi
       rcases (by omega : i = 0 ∨ i = 1) with rfl | rfl
       · refine ⟨hR0, ?_⟩
         rw [xO rfl (by omega) (by show (0 : Int) < secs.length; omega) (by omega) (by rw [hD0]; simp)]
         rw [rX]
         show ((⟨secs, D 0 ++ [⟨0, hdr 0⟩], left, false⟩ : Disk), (0 : Int)) = (⟨secs, D 1, left, false⟩, 0)
         rw [hD0, hD1]; rfl
       · refine ⟨hR1, ?_⟩
         rw [xO rfl (by omega) (by show (1 : Int) < secs.length; omega) (by omega) (by rw [hD1]; simp)]
         rw [rX]
         show ((⟨secs, D 1 ++ [⟨1, hdr 0⟩], left, false⟩ : Disk), (0 : Int)) = (⟨secs, D 2, left, false⟩, 0)
         rw [hD1, hD2]; rfl
     rw [zlp]
     refine zU (fun i : Nat => [(1, .k (.ptr 1 0)), (2, .k (.ptr 2 0)), (17, .int .i64 i)]) (fun i => [(1, yN secs (D i) left false), (2, .var 25 [.c (.list 0 (some true) []), .c (.list 0 (some true) []), .c (.int .i64 0), .c (.bool false)])])
       (fun i => i ≤ 2) (fun i => 2 - i) 0 rfl (by rw [hD0]; rfl) (by decide) ?_
     intro i hi
     by_cases hlt : i < 2
     · have c1 : (i : Int) < 2 := by omega
       have c4 : IntKind.i64.wrap ((i : Int) + 1) = (i : Int) + 1 := wrap_in (by omega) (by omega)
       obtain ⟨hRi, hwi⟩ := hw i hlt
       simp only [c1, c4, Qs, if_true, Nat.reduceAdd, Nat.reduceBEq, vv f32r3.eq_1, vv f32r4o0.eq_1, vv f32r4o1.eq_1, vv f32r4o2.eq_1, vv f32r4o3.eq_1, vv f32r4o4.eq_1, vv f32r4o5.eq_1, vv f32r4o6.eq_1, vv f32r4o7.eq_1, zlo, vv f32r5.eq_1, uu f32b6.eq_1, uu f32b7.eq_1, uu f32b8.eq_1, uu f32b9.eq_1, uu f32b10.eq_1, vv f32r11.eq_1, uu f32b12.eq_1]
       refine ⟨rfl, _, s30 0 (by decide), .inl rfl, ?_⟩
       simp only [c1, c4, Qs, Nat.reduceBEq]
       refine uE (b28 _ hRi i (hdr 0)) ?_ rfl (by simp [zH, V.norm, C.normRow, dV, zD, z6, xK, zA, zB]) rfl
       rw [hwi]
       simp only [zI, dV, zD, zA, zB, c1, c4, Qs, if_true, List.append_nil, Nat.reduceAdd, Nat.reduceBEq]
       exact Next.intro (i + 1) rfl rfl (by omega) (by omega)
     · obtain rfl : i = 2 := by omega
       have c1 : ¬ ((2 : Nat) : Int) < 2 := by omega
       simp only [c1, Qs, if_true, Nat.reduceAdd, Nat.reduceBEq, Int.reduceLT, vv f32r1.eq_1, uu f32b2.eq_1, uu f32b9.eq_1, uu f32b10.eq_1, vv f32r11.eq_1, uu f32b12.eq_1]
       have c29 := b29 _ hR2
       simp only [dV, zD] at c29
       refine zT c29 ?_
       have e0 : x8 ⟨secs, [], left, false⟩ 0 (hdr 0) = (⟨secs, D 1, left, false⟩, 0) := by have := (hw 0 (by decide)).2; rw [hD0] at this; exact this
       have e1 : x8 ⟨secs, D 1, left, false⟩ 1 (hdr 0) = (⟨secs, D 2, left, false⟩, 0) := (hw 1 (by decide)).2
       rw [e0] at hS
       simp only [] at hS
       rw [e1] at hS
       simp only [] at hS
       generalize flushD ⟨secs, D 2, left, false⟩ = x at hS ⊢
       obtain ⟨⟨xs, xp, xl, xb⟩, xe⟩ := x
       simp only [zI, dV, zD, zA, zB, Qs, if_true, List.append_nil, List.nodup_nil, Nat.reduceAdd, Nat.reduceMul, Nat.reduceLT, Nat.reduceBEq]
       exact zS hS (yR _) (yJ _) rfl
 · have hr1 : (yV ⟨secs, pend, left, down⟩ != 0) = true := by simpa using hr
   simp only [hr1, zA, zB, Qs, if_true, List.append_nil, List.nodup_nil, Nat.reduceAdd, Nat.reduceLT, Nat.reduceBEq, vv f32r24.eq_1, uu f32b25.eq_1, uu f32b26.eq_1, vv f32r27.eq_1, uu f32b28.eq_1]
   rw [if_pos hr] at hS
   exact zS hS (secs := []) (pend := []) rfl rfl rfl
def y7 (x : Con × Int) : V := .tup [.agg [lstC 1 (strs x.1.list), .str x.1.bytes, .int .i64 x.1.cur], .int .i64 x.2]
theorem vQ {S : V → Prop} {X : V} (h : ∀ r, r.fz.nrm = X → S r) {c1 : C} {b : Txt} {cur e : Int} {l : List Txt} (h1 : c1.norm = lstC 1 (strs l)) (hX : X = y7 (⟨l, b, cur⟩, e)) : S (.tup [.agg [c1, .str b, .int .i64 cur], .k (.c (.int .i64 e))]) := by
 refine h _ ?_
 simp only [V.fz, V.nrm, V.fzL, V.nrmL, Abs.K.fz, Abs.K.nrm, C.normRow, h1, sO, zg6, hX, y7]
theorem zm4 {S : V → Prop} {X : V} (h : ∀ r, r.fz.nrm = X → S r) {k1 : K} {c1 : C} {b : Txt} {cur e : Int} {l : List Txt} (e1 : k1.fz = .c c1) (h1 : c1.norm = lstC 1 (strs l)) (hX : X = y7 (⟨l, b, cur⟩, e)) : S (.tup [.agk [k1, .c (.str b), .c (.int .i64 cur)], .k (.c (.int .i64 e))]) := by
 refine h _ ?_
 have : V.fz (.agk [k1, .c (.str b), .c (.int .i64 cur)]) = .agg [c1, .str b, .int .i64 cur] := by
   simp only [V.fz, List.map_cons, List.map_nil, e1]; rfl
 rw [show (V.tup [V.agk [k1, .c (.str b), .c (.int .i64 cur)], V.k (K.c (C.int IntKind.i64 e))]).fz = .tup [V.fz (.agk [k1, .c (.str b), .c (.int .i64 cur)]), .k (.c (.int .i64 e))] from rfl, this]
 simp only [V.nrmL, V.nrm, C.normRow, h1, sO, zg6, hX, y7, Abs.K.nrm]
def obR (bytes : Txt) (cur : Int) : List Txt → OS
 | [] => [(2, .var 72 [.c (.list 0 (some true) []), .c (.str []), .c (.int .i64 0)]), (5, .var 72 [.c (.list 0 (some true) []), .c (.str bytes), .c (.int .i64 cur)])]
 | a :: l => [(2, .var 72 [.c (.list 0 (some true) []), .c (.str []), .c (.int .i64 0)]), (5, .var 72 [.own 103, .c (.str bytes), .c (.int .i64 cur)]), (103, .arr 9 1 (some false) (strs (a :: l)))]
theorem pD : ∀ (l : List Txt), (∀ s ∈ l, s.length = 16) → l.flatten.length = 16 * l.length
 | [], _ => by simp
 | s :: l, h => by
   rw [List.flatten_cons, List.length_append, pD l fun x hx => h x (List.mem_cons_of_mem _ hx), h s List.mem_cons_self, List.length_cons]
   omega
theorem iD {d : Disk} (h : yV d = 0) : d.down = false ∧ d.pend = [] := by
 unfold yV at h
 by_cases hd : d.down = true
 · rw [if_pos hd] at h; cases h
 · rw [if_neg hd] at h
   by_cases hp : d.pend = []
   · exact ⟨by simpa using hd, hp⟩
   · rw [if_neg hp] at h; cases h
theorem b27 (d : Disk) (h : Right d) : Spec Tryz.prog 66 [dV d] (fun r => r = y7 (readJ d)) := by
 refine Spec.of_awlP hf66 okf66 (by simp) fun S hS => ?_
 have c33 := b33 d h
 have hse := h.se
 have hhi := h.hi
 obtain ⟨secs, pend, left, down⟩ := d
 unfold readJ logD at hS
 simp only [dV, zD] at *
 simp only [zA, zB, Qs, if_true, bne_iff_ne, ne_eq, Nat.reduceAdd, Nat.reduceEqDiff, Nat.reduceBEq, uu f66.eq_1, vv f66r54.eq_1, uu f66b55.eq_1, uu f66b56.eq_1, vv f66r57.eq_1, uu f66b58.eq_1]
 refine zJ c33 ?_
 by_cases hr : yV ⟨secs, pend, left, down⟩ = 0
 · rw [if_neg (by simp [hr])] at hS
   by_cases h2 : (secs.length : Int) ≤ 2
   · simp only [hr, h2, strs_len, zA, zB, Qs, if_true, if_false, List.append_nil, List.nodup_nil, Nat.reduceAdd, Nat.reduceLeDiff, Nat.reduceLT, Nat.reduceBEq, Int.reduceBNe, vv f66r43.eq_1, uu f66b44.eq_1, uu f66b45.eq_1, vv f66r46.eq_1, uu f66b47.eq_1, uu f66b48.eq_1, uu f66b51.eq_1, vv f66r52.eq_1, uu f66b53.eq_1]
     rw [if_pos (show secs.length ≤ 2 by omega)] at hS
     exact vQ hS (l := []) rfl rfl
   · rw [if_neg (show ¬ secs.length ≤ 2 by omega)] at hS
     have g0 := zX (l := secs) (i := 0) (by omega)
     have g1 := zX (l := secs) (i := 1) (by omega)
     have p0 : (0 : Int) < secs.length := by omega
     have p1 : (1 : Int) < secs.length := by omega
     have d0 : secs.getD 0 [] = secs[0] := by rw [List.getD_eq_getElem?_getD, List.getElem?_eq_getElem (by omega)]; rfl
     have d1 : secs.getD 1 [] = secs[1] := by rw [List.getD_eq_getElem?_getD, List.getElem?_eq_getElem (by omega)]; rfl
     rw [d0, d1] at hS
     have c0 := b40 secs[0] (hse _ (List.getElem_mem _))
     have c1 := b40 secs[1] (hse _ (List.getElem_mem _))
     have hfl := pD (secs.drop 2) fun x hx => hse x (List.mem_of_mem_drop hx)
     rw [List.length_drop] at hfl
     have c41 := s41 (secs.drop 2) (by rw [List.length_drop]; omega) (by omega)
     have keyL : ∀ (N : Nat) (bytes : Txt) (cur : Int) ts os, bytes.length ≤ N → bytes.length ≤ 1000000 → keepT ts [2, 5, 11] = [(2, .k (.ptr 2 0)), (5, .k (.ptr 5 0)), (11, .str bytes)] → keepO os [2, 5, 103] = obR bytes cur [] →
         (∀ r, r.fz.nrm = y7 (match pz N bytes with
         | none => (⟨[], [], 0⟩, 22)
         | some l => if l.length > 500 then (⟨[], [], 0⟩, 22) else (⟨l, bytes, cur⟩, 0)) → S r) →
         awl Tryz.prog f66l17 (AE.inBlockL 0 (AE.thenL (awl Tryz.prog f66b2 (endK [RX.cell 2 3 true, RX.t 3] S)) (endK [RX.cell 2 3 true, RX.t 3] S))) ts os := by
       intro N bytes cur ts os hN hb hts hos hS
       rw [zlE]
       refine zU (fun x : List Txt × Txt => [(2, .k (.ptr 2 0)), (5, .k (.ptr 5 0)), (11, .str x.2)]) (fun x => obR bytes cur x.1)
         (fun x => x.2.length ≤ 1000000 ∧ x.1.length ≤ 500 ∧ ∃ k, x.2.length ≤ k ∧ (pz k x.2).map (x.1 ++ ·) = pz N bytes) (fun x => x.2.length) ([], bytes) hts hos ⟨hb, by simp, N, hN, by cases pz N bytes <;> simp⟩ ?_
       rintro ⟨acc, rest⟩ ⟨g1, g2, k, g3, g4⟩
       simp only [] at g1 g2 g3 g4
       match rest, g1, g3, g4 with
       | [], g1, g3, g4 =>
         have g5 : pz N bytes = some acc := by rw [← g4]; cases k <;> simp [pz]
         rw [g5] at hS
         simp only [if_neg (show ¬ acc.length > 500 by omega)] at hS
         cases acc with
         | nil =>
           simp only [obR, Qs, if_true, BEq.rfl, List.append_nil, List.nodup_nil, Nat.reduceAdd, Nat.reduceLT, Nat.reduceBEq, vv f66r1.eq_1, uu f66b2.eq_1, uu f66b13.eq_1, vv f66r14.eq_1, uu f66b15.eq_1, uu f66b16.eq_1]
           exact vQ hS (l := []) rfl rfl
         | cons a l =>
           simp only [obR, Qs, if_true, BEq.rfl, List.append_nil, List.nodup_nil, List.nodup_cons, Nat.reduceAdd, Nat.reduceLT, Nat.reduceBEq, List.not_mem_nil, vv f66r1.eq_1, uu f66b2.eq_1, uu f66b13.eq_1, vv f66r14.eq_1, uu f66b15.eq_1, uu f66b16.eq_1]
           rw [zA]
           exact zm4 hS rfl (wK _ _) rfl
       | c :: t, g1, g3, g4 =>
         have hne : (c :: t : Txt) ≠ [] := by simp
         obtain ⟨k', rfl⟩ : ∃ k', k = k' + 1 := ⟨k - 1, by simp only [List.length_cons] at g3; omega⟩
         have hpz : pz (k' + 1) (c :: t) = (rS (c :: t)).bind fun p => if p.1.length > 2000 then none else (pz k' p.2).map (p.1 :: ·) := rfl
         generalize (c :: t : Txt) = rest at g1 g3 g4 hne hpz
         rw [hpz] at g4
         have c42 := w19 rest (by omega)
         have hbad : (pz N bytes = none ∨ ∃ l, pz N bytes = some l ∧ l.length > 500) → ∀ r, r.fz.nrm = y7 (⟨[], [], 0⟩, 22) → S r := by
           intro hp
           rcases hp with hp | ⟨l, hp, hl⟩
           · rw [hp] at hS; exact hS
           · rw [hp] at hS; simp only [if_pos hl] at hS; exact hS
         have hloop : ∀ s r, rS rest = some (s, r) → r.length < rest.length := by
           intro s r hs
           have h1 := ((q8 rest s r).1 hs).2
           have h2 : 1 ≤ (wS s).length := by rw [wS, List.length_append, wI, List.length_append, List.length_singleton]; omega
           rw [h1, List.length_append]; omega
         cases hs : rS rest with
         | none =>
           rw [hs] at g4
           have hb2 := hbad (.inl (by rw [← g4]; rfl))
           cases acc with
           | nil =>
             simp only [obR, hne, Qs, if_true, forall_const, List.append_nil, List.nodup_nil, Nat.reduceAdd, Nat.reduceLT, Nat.reduceBEq, vv f66r1.eq_1, uu f66b2.eq_1, vv f66r10.eq_1, uu f66b11.eq_1, uu f66b12.eq_1, uu f66b13.eq_1, vv f66r14.eq_1, uu f66b15.eq_1, uu f66b16.eq_1]
             refine zJ c42 ?_ (hr := sR _)
             simp only [hs, wE, Qs, if_true, List.append_nil, List.nodup_nil, Nat.reduceAdd, Nat.reduceLT, Nat.reduceBEq, vv f66r3.eq_1, vv f66r4.eq_1, uu f66b5.eq_1, uu f66b6.eq_1, vv f66r7.eq_1, uu f66b8.eq_1, uu f66b9.eq_1]
             exact vQ hb2 (l := []) rfl rfl
           | cons a l =>
             simp only [obR, hne, Qs, if_true, forall_const, List.append_nil, List.nodup_nil, List.nodup_cons, Nat.reduceAdd, Nat.reduceLT, Nat.reduceBEq, List.not_mem_nil, vv f66r1.eq_1, uu f66b2.eq_1, vv f66r10.eq_1, uu f66b11.eq_1, uu f66b12.eq_1, uu f66b13.eq_1, vv f66r14.eq_1, uu f66b15.eq_1, uu f66b16.eq_1]
             refine zJ c42 ?_ (hr := sR _)
             simp only [hs, wE, Qs, if_true, List.append_nil, List.nodup_nil, Nat.reduceAdd, Nat.reduceLT, Nat.reduceBEq, vv f66r3.eq_1, vv f66r4.eq_1, uu f66b5.eq_1, uu f66b6.eq_1, vv f66r7.eq_1, uu f66b8.eq_1, uu f66b9.eq_1]
             exact vQ hb2 (l := []) rfl rfl
         | some p =>
           obtain ⟨s, r⟩ := p
           rw [hs] at g4
           have hrl := hloop s r hs
           simp only [Option.bind_some] at g4
           by_cases h5 : (s.length : Int) > 2000
           · rw [if_pos (show s.length > 2000 by omega)] at g4
             have hb2 := hbad (.inl (by rw [← g4]; rfl))
             cases acc with
             | nil =>
               simp only [obR, hne, Qs, if_true, forall_const, List.append_nil, List.nodup_nil, Nat.reduceAdd, Nat.reduceLT, Nat.reduceBEq, vv f66r1.eq_1, uu f66b2.eq_1, vv f66r10.eq_1, uu f66b11.eq_1, uu f66b12.eq_1, uu f66b13.eq_1, vv f66r14.eq_1, uu f66b15.eq_1, uu f66b16.eq_1]
               refine zJ c42 ?_ (hr := sR _)
               simp only [hs, h5, wE, Qs, if_true, if_false, List.append_nil, List.nodup_nil, Nat.reduceAdd, Nat.reduceLT, Nat.reduceBEq, vv f66r3.eq_1, vv f66r4.eq_1, uu f66b5.eq_1, uu f66b6.eq_1, vv f66r7.eq_1, uu f66b8.eq_1, uu f66b9.eq_1]
               exact vQ hb2 (l := []) rfl rfl
             | cons a l =>
               simp only [obR, hne, Qs, if_true, forall_const, List.append_nil, List.nodup_nil, List.nodup_cons, Nat.reduceAdd, Nat.reduceLT, Nat.reduceBEq, List.not_mem_nil, vv f66r1.eq_1, uu f66b2.eq_1, vv f66r10.eq_1, uu f66b11.eq_1, uu f66b12.eq_1, uu f66b13.eq_1, vv f66r14.eq_1, uu f66b15.eq_1, uu f66b16.eq_1]
               refine zJ c42 ?_ (hr := sR _)
               simp only [hs, h5, wE, Qs, if_true, if_false, List.append_nil, List.nodup_nil, Nat.reduceAdd, Nat.reduceLT, Nat.reduceBEq, vv f66r3.eq_1, vv f66r4.eq_1, uu f66b5.eq_1, uu f66b6.eq_1, vv f66r7.eq_1, uu f66b8.eq_1, uu f66b9.eq_1]
               exact vQ hb2 (l := []) rfl rfl
           · rw [if_neg (show ¬ s.length > 2000 by omega)] at g4
             have g4' : (pz k' r).map ((acc ++ [s]) ++ ·) = pz N bytes := by
               rw [← g4]
               cases pz k' r <;> simp
             cases acc with
             | nil =>
               simp only [obR, hne, Qs, if_true, forall_const, List.append_nil, List.nodup_nil, Nat.reduceAdd, Nat.reduceLT, Nat.reduceBEq, vv f66r1.eq_1, uu f66b2.eq_1, vv f66r10.eq_1, uu f66b11.eq_1, uu f66b12.eq_1, uu f66b13.eq_1, vv f66r14.eq_1, uu f66b15.eq_1, uu f66b16.eq_1]
               refine zJ c42 ?_ (hr := sR _)
               simp only [hs, h5, wE, Qs, zdQ, zeB, zeD, if_true, if_false, forall_eq, bne_iff_ne, ne_eq, List.mem_cons, Nat.reduceAdd, Nat.reduceMul, Nat.reduceEqDiff, Nat.reduceLeDiff, Nat.reduceLT, Nat.reduceBEq, Int.reduceBEq, List.not_mem_nil, vv f66r3.eq_1, uu f66b6.eq_1, vv f66r7.eq_1, uu f66b8.eq_1, uu f66b9.eq_1]
               exact Next.intro ([s], r) rfl rfl ⟨by show r.length ≤ 1000000; omega, by simp, k', by show r.length ≤ k'; omega, g4'⟩ hrl
             | cons a l =>
               have hb2 : (((l.length + 1 : Nat) : Int) = 500) → ∀ r, r.fz.nrm = y7 (⟨[], [], 0⟩, 22) → S r := fun h6 => hbad (by
                   rw [← g4]
                   cases pz k' r with
                   | none => exact .inl rfl
                   | some l2 => exact .inr ⟨_, rfl, by simp only [List.length_append, List.length_cons]; omega⟩)
               simp only [obR, hne, Qs, if_true, forall_const, List.append_nil, List.nodup_nil, List.nodup_cons, Nat.reduceAdd, Nat.reduceLT, Nat.reduceBEq, List.not_mem_nil, vv f66r1.eq_1, uu f66b2.eq_1, vv f66r10.eq_1, uu f66b11.eq_1, uu f66b12.eq_1, uu f66b13.eq_1, vv f66r14.eq_1, uu f66b15.eq_1, uu f66b16.eq_1]
               refine zJ c42 ?_ (hr := sR _)
               simp only [hs, h5, strs_len, wE, Qs, zdR, zdS, ze3, rN, rO, if_true, if_false, forall_eq, bne_iff_ne, ne_eq, List.append_nil, List.mem_cons, List.nodup_nil, Nat.reduceAdd, Nat.reduceEqDiff, Nat.reduceLeDiff, Nat.reduceLT, Nat.reduceBEq, Nat.succ_ne_self, List.not_mem_nil, vv f66r3.eq_1, vv f66r4.eq_1, uu f66b5.eq_1, uu f66b6.eq_1, vv f66r7.eq_1, uu f66b8.eq_1, uu f66b9.eq_1]
               simp only [List.length_cons] at g2
               refine ⟨fun h6 => vQ (hb2 h6) (l := []) rfl rfl, fun h6 => ⟨by omega, by omega, Next.intro (a :: l ++ [s], r) rfl ?_ ⟨by show r.length ≤ 1000000; omega, by simp only [List.length_append, List.length_cons, List.length_nil]; omega, k', by show r.length ≤ k'; omega, g4'⟩ hrl⟩⟩
               simp only [obR, List.cons_append]
               rw [← List.cons_append, ← uC]
               rfl
     have key : ∀ (N : Nat) (cur : Int) (o1 o2 : Bool), (∀ r, r.fz.nrm = y7 (if (o1 || o2) = false then (⟨[], [], 0⟩, 22) else if N > ((secs.drop 2).flatten).length then (⟨[], [], 0⟩, 22) else
         match pz N (((secs.drop 2).flatten).take N) with
         | none => (⟨[], [], 0⟩, 22)
         | some l => if l.length > 500 then (⟨[], [], 0⟩, 22) else (⟨l, ((secs.drop 2).flatten).take N, cur⟩, 0)) → S r) →
         awl Tryz.prog f66b31 (endK [RX.cell 2 3 true, RX.t 3] S) [(1, .k (.ptr 1 0)), (2, .k (.ptr 2 0)), (5, .k (.ptr 5 0)), (6, .int .i64 N), (7, .bool o1), (9, .bool o2)]
           [(1, yN secs pend left down), (2, .var 72 [.c (.list 0 (some true) []), .c (.str []), .c (.int .i64 0)]), (5, .var 72 [.c (.list 0 (some true) []), .c (.str []), .c (.int .i64 cur)])] := by
       intro N cur o1 o2 hS
       simp only [strs_len, Qs, zcG, ze7, ze8, if_false, Nat.reduceAdd, Nat.reduceLeDiff, zlP, zlQ, Int.reduceLE, Int.reduceToNat, vv f66r30.eq_1, uu f66b31.eq_1]
       refine ⟨⟨by omega, Int.le_refl _⟩, ?_⟩
       rw [show List.drop 2 (List.take secs.length (strs secs)) = strs (secs.drop 2) by rw [List.take_of_length_le (by rw [strs_len]; exact Nat.le_refl _)]; simp [strs, List.map_drop]]
       refine zJ c41 ?_ (ha := by show [V.k (K.c (C.norm (C.list 1 none (strs (secs.drop 2))))), V.k (K.c (C.str []))] = _; rw [wK])
       generalize (secs.drop 2).flatten = log at hfl hS c41
       by_cases ho : (o1 || o2) = false
       · rw [if_pos ho] at hS
         obtain ⟨rfl, rfl⟩ : o1 = false ∧ o2 = false := by simpa using ho
         simp only [Qs, if_true, List.append_nil, List.nodup_nil, Nat.reduceAdd, Nat.reduceLT, Nat.reduceBEq, vv f66r24.eq_1, uu f66b25.eq_1, uu f66b26.eq_1, vv f66r27.eq_1, uu f66b28.eq_1, uu f66b29.eq_1]
         exact vQ hS (l := []) rfl rfl
       · rw [if_neg ho] at hS
         by_cases hN : (N : Int) > log.length
         · rw [if_pos (by omega)] at hS
           cases o1 <;> cases o2
           · exact absurd rfl ho
           all_goals
             simp only [hN, Qs, if_true, if_false, List.append_nil, List.nodup_nil, Nat.reduceAdd, Nat.reduceLT, Nat.reduceBEq, vv f66r24.eq_1, uu f66b25.eq_1, uu f66b26.eq_1, vv f66r27.eq_1, uu f66b28.eq_1, uu f66b29.eq_1]
             exact vQ hS (l := []) rfl rfl
         · rw [if_neg (by omega)] at hS
           cases o1 <;> cases o2
           · exact absurd rfl ho
           all_goals
             simp only [hN, Qs, if_true, if_false, Nat.reduceAdd, Nat.reduceLeDiff, Nat.reduceBEq, Int.reduceLE, uu f66b18.eq_1, vv f66r19.eq_1, uu f66b20.eq_1, uu f66b21.eq_1, vv f66r22.eq_1, uu f66b23.eq_1, uu f66b26.eq_1, vv f66r27.eq_1, uu f66b28.eq_1, uu f66b29.eq_1]
             exact ⟨by omega, keyL N (log.take N) cur _ _ (by rw [List.length_take]; omega) (by rw [List.length_take]; omega) rfl rfl hS⟩
     simp only [hr, h2, g0, g1, p0, p1, strs_len, zA, zB, Qs, if_true, if_false, bne_iff_ne, ne_eq, Nat.reduceAdd, Nat.reduceEqDiff, Nat.reduceLeDiff, Nat.reduceBEq, Int.reduceLE, Int.reduceBNe, vv f66r39.eq_1, uu f66b40.eq_1, vv f66r41.eq_1, uu f66b42.eq_1, uu f66b45.eq_1, vv f66r46.eq_1, uu f66b47.eq_1, uu f66b48.eq_1, uu f66b51.eq_1, vv f66r52.eq_1, uu f66b53.eq_1]
     refine zJ c0 ?_ (hr := by unfold vP; split <;> rfl)
     cases hA : yF secs[0] with
     | none =>
       rw [hA] at hS
       simp only [vP, hr, h2, g0, g1, p0, p1, strs_len, zA, zB, Qs, if_false, Nat.reduceAdd, Nat.reduceLeDiff, Nat.reduceBEq, Int.reduceLE, Int.reduceToNat, vv f66r37.eq_1, uu f66b38.eq_1]
       refine zJ c1 ?_ (hr := by unfold vP; split <;> rfl)
       cases hB : yF secs[1] with
       | none =>
         rw [hB] at hS
         simp only [vP, hr, h2, g0, g1, p0, p1, strs_len, zA, zB, Qs, Nat.reduceBEq, vv f66r32.eq_1, uu f66b33.eq_1, vv f66r34.eq_1, uu f66b35.eq_1, uu f66b36.eq_1]
         exact key 0 0 false false hS
       | some m =>
         rw [hB] at hS
         simp only [vP, hr, h2, g0, g1, p0, p1, strs_len, zA, zB, Qs, if_true, List.append_nil, Nat.reduceAdd, Nat.reduceBEq, vv f66r32.eq_1, uu f66b33.eq_1, vv f66r34.eq_1, uu f66b35.eq_1, uu f66b36.eq_1]
         exact key m 1 false true hS
     | some n =>
       rw [hA] at hS
       simp only [vP, hr, h2, g0, g1, p0, p1, strs_len, zA, zB, Qs, if_false, Nat.reduceAdd, Nat.reduceLeDiff, Nat.reduceBEq, Int.reduceLE, Int.reduceToNat, vv f66r37.eq_1, uu f66b38.eq_1]
       refine zJ c1 ?_ (hr := by unfold vP; split <;> rfl)
       cases hB : yF secs[1] with
       | none =>
         rw [hB] at hS
         simp only [vP, hr, h2, g0, g1, p0, p1, strs_len, zA, zB, Qs, Nat.reduceBEq, vv f66r32.eq_1, uu f66b33.eq_1, vv f66r34.eq_1, uu f66b35.eq_1, uu f66b36.eq_1]
         exact key n 0 true false hS
       | some m =>
         rw [hB] at hS
         by_cases hmn : m > n
         · have hmn' : (m : Int) > n := by omega
           simp only [vP, hr, h2, g0, g1, p0, p1, hmn', strs_len, zA, zB, Qs, if_true, if_false, List.append_nil, Nat.reduceAdd, Nat.reduceBEq, vv f66r32.eq_1, uu f66b33.eq_1, vv f66r34.eq_1, uu f66b35.eq_1, uu f66b36.eq_1]
           simp only [xS, if_pos hmn] at hS
           exact key m 1 true true hS
         · have hmn' : ¬ (m : Int) > n := by omega
           simp only [vP, hr, h2, g0, g1, p0, p1, hmn', strs_len, zA, zB, Qs, if_true, if_false, Nat.reduceBEq, vv f66r32.eq_1, uu f66b33.eq_1, vv f66r34.eq_1, uu f66b35.eq_1, uu f66b36.eq_1]
           simp only [xS, if_neg hmn] at hS
           exact key n 0 true true hS
 · have hr1 : (yV ⟨secs, pend, left, down⟩ != 0) = true := by simpa using hr
   simp only [hr1, zA, zB, Qs, if_true, List.append_nil, List.nodup_nil, Nat.reduceAdd, Nat.reduceLT, Nat.reduceBEq, vv f66r49.eq_1, uu f66b50.eq_1, uu f66b51.eq_1, vv f66r52.eq_1, uu f66b53.eq_1]
   rw [if_pos hr] at hS
   exact vQ hS (l := []) rfl rfl
theorem b20 (d : Disk) (h : Right d) : Spec Tryz.prog 35 [dV d] (fun r => r = .tup [lst 1 (strs (readJ d).1.list), .int .i64 (readJ d).2]) := by
 refine Spec.of_awlS hf35 okf35 (by simp) fun S hS => ?_
 have c27 := b27 d h
 generalize readJ d = x at c27 hS
 obtain ⟨⟨xl, xb, xc⟩, xe⟩ := x
 obtain ⟨secs, pend, left, down⟩ := d
 simp only [dV, zD, y7] at *
 simp only [zA, zB, Qs, if_true, bne_iff_ne, ne_eq, Nat.reduceAdd, Nat.reduceEqDiff, Nat.reduceBEq, uu f35.eq_1, vv f35r3.eq_1, uu f35b4.eq_1, vv f35r5.eq_1, uu f35b6.eq_1]
 refine zT c27 ?_
 simp only [zA, zB, Qs, if_true, if_false, bne_iff_ne, ne_eq, List.append_nil, List.nodup_nil, Nat.reduceAdd, Nat.reduceMul, Nat.reduceEqDiff, Nat.reduceLeDiff, Nat.reduceBEq, vv f35r1.eq_1, uu f35b2.eq_1]
 exact hS
theorem r32 (n : Nat) (h : n ≤ 1000000) : Spec Tryz.prog 62 [.int .i64 n] (fun r => r = .str (yM n)) := by
 refine Spec.of_awlS hf62 okf62 (by simp) fun S hS => ?_
 simp only [Qs, uu f62.eq_1, uu f62b12.eq_1, vv f62r13.eq_1, uu f62b14.eq_1, uu f62b15.eq_1, vv f62r16.eq_1, uu f62b17.eq_1, vv f62r18.eq_1, uu f62b19.eq_1]
 rw [zlB]
 refine zU (fun i : Nat => [(0, .int .i64 n), (3, .str (yM i)), (4, .int .i64 i)]) (fun _ => []) (fun i => i ≤ n) (fun i => n - i) 0 rfl rfl (Nat.zero_le _) ?_
 intro i hi
 by_cases hlt : i < n
 · have c1 : (i : Int) < n := by omega
   have c4 : IntKind.i64.wrap ((i : Int) + 1) = (i : Int) + 1 := wrap_in (by omega) (by omega)
   have hz : yM i ++ [0] = yM (i + 1) := by rw [yM, yM, List.replicate_succ']
   have hl : (yM i).length = i := by rw [yM, List.length_replicate]
   simp only [c1, c4, hz, Qs, if_true, Nat.reduceLeDiff, Nat.reduceBEq, vv f62r3.eq_1, vv f62r4.eq_1, uu f62b5.eq_1, uu f62b6.eq_1, uu f62b7.eq_1, vv f62r8.eq_1, uu f62b9.eq_1, uu f62b10.eq_1]
   first
     | exact Next.intro (i + 1) rfl rfl (by omega) (by omega)
     | exact ⟨by rw [hl]; omega, Next.intro (i + 1) rfl rfl (by omega) (by omega)⟩
 · obtain rfl : i = n := by omega
   have c1 : ¬ (i : Int) < i := by omega
   simp only [c1, Qs, if_true, List.nodup_nil, Nat.reduceBEq, vv f62r1.eq_1, uu f62b2.eq_1, uu f62b7.eq_1, vv f62r8.eq_1, uu f62b9.eq_1, uu f62b10.eq_1]
   exact hS
theorem r39 (d : Disk) (h : Right d) : Spec Tryz.prog 42 [dV d] (fun r => r = .int .i64 0) := by
 refine Spec.of_awlS hf42 okf42 (by simp) fun S hS => ?_
 obtain ⟨secs, pend, left, down⟩ := d
 have hlo : 1 ≤ secs.length := h.lo
 have hhi : secs.length ≤ 512 := h.hi
 have hpe : pend.length ≤ 512 := h.pe
 have hl0 : -1 ≤ left := h.l0
 have hl1 : left ≤ 512 := h.l1
 have hse : ∀ s ∈ secs, s.length = 16 := h.se
 have hwr : ∀ w ∈ pend, 0 ≤ w.pos ∧ w.pos < secs.length ∧ w.text.length = 16 := h.wr
 have l0 : ¬ (secs.length : Int) < 1 := by omega
 have l1 : ¬ (secs.length : Int) > 512 := by omega
 have p1 : ¬ (pend.length : Int) > 512 := by omega
 have f0 : ¬ left < -1 := by omega
 have f1 : ¬ left > 512 := by omega
 have hpl : down = true → ¬ (pend.length : Int) > 0 ∧ (left != -1) = false := fun e => by
   obtain ⟨e1, e2⟩ := h.dn e
   have e1 : pend = [] := e1
   have e2 : left = -1 := e2
   subst e1 e2
   exact ⟨by simp, rfl⟩
 simp only [zD, strs_len, zL, l0, l1, p1, f0, f1, Qs, if_true, if_false, Int.reduceNeg, Nat.reduceAdd, Nat.reduceLeDiff, Nat.reduceBEq, uu f42.eq_1, uu f42b41.eq_1, vv f42r42.eq_1, uu f42b43.eq_1, uu f42b44.eq_1, uu f42b47.eq_1, vv f42r48.eq_1, uu f42b49.eq_1, uu f42b50.eq_1, vv f42r51.eq_1, uu f42b52.eq_1]
 rw [zgY]
 refine zU (fun i : Nat => [(1, .k (.ptr 1 0)), (3, .int .i64 i)]) (fun _ => [(1, yN secs pend left down)])
   (fun i => i ≤ secs.length) (fun i => secs.length - i) 0 rfl rfl (Nat.zero_le _) ?_
 intro i hi
 by_cases hlt : i < secs.length
 · have c1 : (i : Int) < secs.length := by omega
   have c4 : IntKind.i64.wrap ((i : Int) + 1) = (i : Int) + 1 := wrap_in (by omega) (by omega)
   have c2 := hse _ (List.getElem_mem hlt)
   simp only [strs_len, c1, c2, c4, zX hlt, Qs, if_true, if_false, Nat.reduceAdd, Nat.reduceLeDiff, Nat.reduceBEq, Int.reduceBNe, vv f42r28.eq_1, uu f42b31.eq_1, vv f42r32.eq_1, uu f42b33.eq_1, uu f42b34.eq_1, uu f42b35.eq_1, uu f42b36.eq_1, vv f42r37.eq_1, uu f42b38.eq_1, uu f42b39.eq_1]
   exact Next.intro (i + 1) rfl rfl (by omega) (by omega)
 · have c1 : ¬ (i : Int) < secs.length := by omega
   simp only [strs_len, zL, c1, Qs, if_true, if_false, Nat.reduceAdd, Nat.reduceLeDiff, Nat.reduceBEq, uu f42b24.eq_1, vv f42r25.eq_1, uu f42b26.eq_1, uu f42b27.eq_1, uu f42b36.eq_1, vv f42r37.eq_1, uu f42b38.eq_1, uu f42b39.eq_1]
   rw [zgX]
   refine zU (fun i : Nat => [(1, .k (.ptr 1 0)), (4, .int .i64 i)]) (fun _ => [(1, yN secs pend left down)])
     (fun i => i ≤ pend.length) (fun i => pend.length - i) 0 rfl rfl (Nat.zero_le _) ?_
   intro i hi
   by_cases hlt : i < pend.length
   · have c1 : (i : Int) < pend.length := by omega
     have c4 : IntKind.i64.wrap ((i : Int) + 1) = (i : Int) + 1 := wrap_in (by omega) (by omega)
     obtain ⟨w0, w1, w2⟩ := hwr _ (List.getElem_mem hlt)
     have c5 : ¬ pend[i].pos < 0 := by omega
     have c6 : ¬ pend[i].pos ≥ secs.length := by omega
     simp only [strs_len, zL, c1, c4, c5, c6, w2, xP hlt, Qs, if_true, if_false, bne_iff_ne, ne_eq, List.append_nil, Nat.reduceAdd, Nat.reduceEqDiff, Nat.reduceLeDiff, Nat.reduceBEq, Int.reduceBNe, vv f42r9.eq_1, uu f42b12.eq_1, vv f42r13.eq_1, uu f42b14.eq_1, vv f42r15.eq_1, uu f42b16.eq_1, uu f42b17.eq_1, uu f42b18.eq_1, uu f42b19.eq_1, vv f42r20.eq_1, uu f42b21.eq_1, uu f42b22.eq_1]
     exact Next.intro (i + 1) rfl rfl (by omega) (by omega)
   · have c1 : ¬ (i : Int) < pend.length := by omega
     cases down
     · simp only [zL, c1, Qs, if_true, if_false, Int.reduceNeg, List.nodup_nil, Nat.reduceAdd, Nat.reduceLeDiff, Nat.reduceBEq, vv f42r1.eq_1, uu f42b2.eq_1, uu f42b5.eq_1, vv f42r6.eq_1, uu f42b7.eq_1, uu f42b8.eq_1, uu f42b19.eq_1, vv f42r20.eq_1, uu f42b21.eq_1, uu f42b22.eq_1]
       exact hS
     · obtain ⟨e1, e2⟩ := hpl rfl
       simp only [zL, c1, e1, e2, Qs, if_true, if_false, Int.reduceNeg, List.nodup_nil, Nat.reduceAdd, Nat.reduceLeDiff, Nat.reduceBEq, vv f42r1.eq_1, uu f42b2.eq_1, uu f42b5.eq_1, vv f42r6.eq_1, uu f42b7.eq_1, uu f42b8.eq_1, uu f42b19.eq_1, vv f42r20.eq_1, uu f42b21.eq_1, uu f42b22.eq_1]
       exact hS
theorem r38 (d : Disk) (h : Right d) : Spec Tryz.prog 86 [dV d] (fun r => r = .int .i64 (if d.down = true then 8 else 0)) := by
 refine Spec.of_awlS hf86 okf86 (by simp) fun S hS => ?_
 have c39 := r39 d h
 obtain ⟨secs, pend, left, down⟩ := d
 simp only [dV, zD] at *
 simp only [zA, zB, Qs, if_true, Nat.reduceAdd, Nat.reduceBEq, uu f86.eq_1, vv f86r9.eq_1, uu f86b10.eq_1, vv f86r11.eq_1, uu f86b12.eq_1]
 refine zJ c39 ?_
 cases down <;> simp only [Qs, if_true, if_false, BEq.rfl, List.nodup_nil, Nat.reduceAdd, Nat.reduceBEq, vv f86r1.eq_1, uu f86b2.eq_1, vv f86r3.eq_1, uu f86b4.eq_1, uu f86b5.eq_1, vv f86r6.eq_1, uu f86b7.eq_1, uu f86b8.eq_1] <;> exact hS
theorem r26 (d : Disk) (h : Right d) : Spec Tryz.prog 17 [dV d] (fun r => r = zI (startD d)) := by
 refine Spec.of_awlP hf17 okf17 (by simp) fun S hS => ?_
 have c39 := r39 d h
 obtain ⟨secs, pend, left, down⟩ := d
 unfold startD at hS
 simp only [dV, zD] at *
 simp only [zA, zB, Qs, if_true, bne_iff_ne, ne_eq, Nat.reduceAdd, Nat.reduceEqDiff, Nat.reduceBEq, uu f17.eq_1, vv f17r14.eq_1, uu f17b15.eq_1, uu f17b16.eq_1, vv f17r17.eq_1, uu f17b18.eq_1]
 refine zJ c39 ?_
 cases down
 · simp only [zA, zB, Qs, if_true, if_false, List.append_nil, List.nodup_nil, Nat.reduceAdd, Nat.reduceLT, Nat.reduceBEq, Int.reduceBNe, vv f17r5.eq_1, uu f17b6.eq_1, uu f17b7.eq_1, vv f17r8.eq_1, uu f17b9.eq_1, uu f17b10.eq_1, uu f17b13.eq_1]
   exact zS hS (secs := []) (pend := []) rfl rfl rfl
 · simp only [zA, zB, Qs, if_true, if_false, List.append_nil, List.nodup_nil, Nat.reduceAdd, Nat.reduceLT, Nat.reduceBEq, Int.reduceBNe, vv f17r1.eq_1, uu f17b2.eq_1, vv f17r3.eq_1, uu f17b4.eq_1, uu f17b7.eq_1, vv f17r8.eq_1, uu f17b9.eq_1, uu f17b10.eq_1, uu f17b13.eq_1]
   exact zS hS (yR _) (yJ _) rfl
end Go.Abs
