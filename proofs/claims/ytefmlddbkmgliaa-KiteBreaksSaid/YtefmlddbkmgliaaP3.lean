/- A part of the proof; the last text states what is proved. -/
import Derived.Test.YtefmlddbkmgliaaP2
import Derived.Shelf.Sort.Plain
import Derived.Shelf.Slices.CompactI
import Derived.Sort.OwnSortedInts
import Derived.Shelf.Slices.In.SortNone
import Derived.Shelf.Spec.SlicesGrow
import Derived.Handed
import Derived.ChangeFn
import Derived.ChangeArms
import Derived.ChangeReads
import Derived.ReadAgain
import Derived.ChangeSame
import Derived.ChangeOld
import Derived.ChangeStays
import Derived.RowKit
import Derived.Test.YtefmlddbkmgliaaProg
import Derived.IntWalk
set_option linter.unusedVariables false
set_option linter.unusedSimpArgs false
namespace Go.Abs
inductive AQ where
  | skip
  | region (ops : List AI)
  | draw (ops : List AI) (pre : List (List Nat))
  | tree (ops : List AI) (pre : List (List Nat))
  | seq (a b : AQ)
  | cond (c : AX) (a b : AQ)
  | block (id : Nat) (a : AQ)
  | loop (L M : List Nat) (a : AQ)
  | exit (id : Nat)
  | ret
  | keep (L M : List Nat) (a : AQ)
  | own (τ A e sz : Nat) (a : AQ)
  | swap (x y : Nat) (a : AQ)
  | frz (τ : Nat) (a : AQ)
  | regf (l1 : List AI) (τs : List Nat) (l2 : List AI)
  | regs (ps : List (List AI × List Nat))
  deriving Inhabited
def AQ.erase : AQ → AC
  | .skip => .skip
  | .region l => .region l
  | .draw l p => .draw l p
  | .tree l p => .draw l p
  | .seq a b => .seq a.erase b.erase
  | .cond c a b => .cond c a.erase b.erase
  | .block i a => .block i a.erase
  | .loop _ _ a => .loop a.erase
  | .exit i => .exit i
  | .ret => .ret
  | .keep _ _ a => a.erase
  | .own _ _ _ _ a => a.erase
  | .swap _ _ a => a.erase
  | .frz _ a => a.erase
  | .regf l1 _ l2 => .region (l1 ++ l2)
  | .regs ps => .region (ps.flatMap fun p => p.1)
def AQ.ok : AQ → Bool
  | .draw l p => listOk l p
  | .seq a b => a.ok && b.ok
  | .cond _ a b => a.ok && b.ok
  | .block _ a => a.ok
  | .loop _ _ a => a.ok
  | .keep _ _ a => a.ok
  | .own _ _ _ _ a => a.ok
  | .swap _ _ a => a.ok
  | .frz _ a => a.ok
  | _ => true
def St.keep (σ : St) (L M : List Nat) : St := ⟨fun s => if L.contains s then σ.t s else .any, tabIn M σ.o⟩
def sw (x y s : Nat) : Nat := if s = x then y else if s = y then x else s
theorem sw_sw (x y s : Nat) : sw x y (sw x y s) = s := by
  unfold sw
  by_cases h1 : s = x <;> by_cases h2 : s = y <;> simp_all
def Cap.sw (x y : Nat) : Cap → Cap
  | .tok s => .tok (Abs.sw x y s)
  | .ro row off => .ro row off
def K.sw (x y : Nat) : K → K
  | .c a => .c a
  | .own s => .own (Abs.sw x y s)
  | .ptr s o => .ptr (Abs.sw x y s) o
  | .elem s i o => .elem (Abs.sw x y s) i o
  | .pel sz rows i o => .pel sz rows i o
  | .fnk f caps => .fnk f (caps.map (Cap.sw x y))
  | .newl e sz nl rows => .newl e sz nl rows
  | .dead => .dead
def V.sw (x y : Nat) : V → V
  | .k a => .k (a.sw x y)
  | .agg r => .agg r
  | .agk r => .agk (r.map (K.sw x y))
  | .undef => .undef
  | .tup _ => .any
  | .any => .any
def O.sw (x y : Nat) : O → O
  | .var e row => .var e (row.map (K.sw x y))
  | .arr e sz nl rows => .arr e sz nl rows
def St.sw (σ : St) (x y : Nat) : St := ⟨fun s => (σ.t s).sw x y, fun s => (σ.o (Abs.sw x y s)).map (O.sw x y)⟩
def St.noA (σ : St) (A : Nat) : Prop := σ.o A = none ∧ (∀ s, (σ.t s).noRef A = true) ∧ ∀ s ob, σ.o s = some ob → ob.noRef A = true
def St.ownNil (σ : St) (τ A e sz : Nat) (e' : TypeId) : St := ⟨σ.t, fun s => if s = A then some (.arr e sz (some true) []) else if s = τ then some (.var e' [.own A]) else σ.o s⟩
def St.frzA : List Nat → St → St
  | [], σ => σ
  | τ :: l, σ => St.frzA l (σ.frz τ)
def wpPs (P : Program) : List (List AI × List Nat) → (St → Prop) → St → Prop
  | [], K, σ => K σ
  | p :: r, K, σ => wpAIs P p.1 (fun σ => wpPs P r K (St.frzA p.2 σ)) σ
def awq (P : Program) : AQ → (AE → St → Prop) → St → Prop
  | .skip, Q, σ => Q .normal σ
  | .region ops, Q, σ => wpAIs P ops (Q .normal) σ
  | .draw ops _, Q, σ => wpQs P ops (Q .normal) σ
  | .tree ops pre, Q, σ => wpT P (treeOf ops pre) (Q .normal) σ
  | .seq a b, Q, σ => awq P a (AE.then (awq P b Q) Q) σ
  | .cond c a b, Q, σ => c.evg σ true fun v =>
      match v with
      | .k (.c (.bool t)) => (t = true → awq P a Q σ) ∧ (t = false → awq P b Q σ)
      | _ => False
  | .block id a, Q, σ => awq P a (AE.inBlock id Q) σ
  | .loop L M a, Q, σ => ∃ I : Nat → St → Prop, (∃ n, I n (σ.keep L M)) ∧ ∀ n σ', I n σ' → awq P a (AE.then (fun σ'' => ∃ m, m < n ∧ I m (σ''.keep L M)) Q) σ'
  | .exit id, Q, σ => Q (.exit id) σ
  | .ret, Q, σ => Q .ret σ
  | .keep L M a, Q, σ => awq P a Q (σ.keep L M)
  | .own τ A e sz a, Q, σ => ∃ e' z, σ.o τ = some (.var e' [.c (.list z (some true) [])]) ∧ σ.noA A ∧ awq P a Q (σ.ownNil τ A e sz e')
  | .swap x y a, Q, σ => awq P a Q (σ.sw x y)
  | .frz τ a, Q, σ => awq P a Q (σ.frz τ)
  | .regf l1 τs l2, Q, σ => wpAIs P l1 (fun σ => wpAIs P l2 (Q .normal) (St.frzA τs σ)) σ
  | .regs ps, Q, σ => wpPs P ps (Q .normal) σ
section
variable {P : Program} {w0 : Base} {w : World} {Z0 Z : Bk → Prop} {κ : Kap} {σ : St} {fr : Array Value} {o o' : Nat → Option O}
theorem CapRep.sub (ho : ∀ τ ob, o' τ = some ob → o τ = some ob) {c : Cap} {v : Value} (h : CapRep w Z κ o c v) : CapRep w Z κ o' c v := by
  cases c with
  | tok τ => exact fun e row h' => h e row (ho _ _ h')
  | ro => exact h
theorem KRep.sub (ho : ∀ τ ob, o' τ = some ob → o τ = some ob) {x : K} {v : Value} (h : KRep w Z κ o x v) : KRep w Z κ o' x v := by
  cases x with
  | own τ => exact fun e sz nl rows h' => h e sz nl rows (ho _ _ h')
  | ptr τ off => exact fun e row h' => h e row (ho _ _ h')
  | elem τ i off => exact fun e sz nl rows h' => h e sz nl rows (ho _ _ h')
  | fnk f caps =>
    obtain ⟨vs, h1, h2, h3⟩ := h
    exact ⟨vs, h1, h2, fun j c hc => let ⟨u, hu, hr⟩ := h3 j c hc; ⟨u, hu, hr.sub ho⟩⟩
  | _ => exact h
theorem KRow.sub (ho : ∀ τ ob, o' τ = some ob → o τ = some ob) {r : List K} {cs : List Value} (h : KRow w Z κ o r cs) : KRow w Z κ o' r cs :=
  ⟨h.1, fun j k v hk hv => ⟨(h.2 j k v hk hv).1, (h.2 j k v hk hv).2.sub ho⟩⟩
mutual
theorem VRep.sub (ho : ∀ τ ob, o' τ = some ob → o τ = some ob) : ∀ {x : V} {v : Value}, VRep w Z κ o x v → VRep w Z κ o' x v
  | .k x, v, h => ⟨h.1, h.2.sub ho⟩
  | .agg r, v, h => h
  | .agk r, v, ⟨cs, e, h⟩ => ⟨cs, e, h.sub ho⟩
  | .tup vs, v, ⟨us, e, hl, h⟩ => ⟨us, e, hl, VRepL.sub ho h⟩
  | .undef, v, h => h
  | .any, v, h => trivial
theorem VRepL.sub (ho : ∀ τ ob, o' τ = some ob → o τ = some ob) : ∀ {xs : List V} {vs : List Value}, VRepL w Z κ o xs vs → VRepL w Z κ o' xs vs
  | [], _, h => trivial
  | _ :: _, [], h => trivial
  | x :: xs, v :: vs, h => ⟨VRep.sub ho h.1, VRepL.sub ho h.2⟩
end
theorem ORep.sub (ho : ∀ τ ob, o' τ = some ob → o τ = some ob) {τ : Nat} {ob : O} (h : ORep w Z κ o τ ob) : ORep w Z κ o' τ ob := by
  cases ob with
  | var e row =>
    obtain ⟨b, cur, h1, h2, h3⟩ := h
    exact ⟨b, cur, h1, h2, h3.sub ho⟩
  | arr => exact h
theorem keep_le (σ : St) (L M : List Nat) : σ.le (σ.keep L M) := by
  intro w0 Z0 κ fr w hi
  refine ⟨κ, ?_⟩
  have ho : ∀ τ ob, (σ.keep L M).o τ = some ob → σ.o τ = some ob := by
    intro τ ob h
    simp only [St.keep, tabIn] at h
    split at h
    · exact h
    · simp at h
  have hn : ∀ τ, (σ.keep L M).o τ ≠ none → σ.o τ ≠ none := by
    intro τ h
    obtain ⟨ob, hob⟩ := Option.ne_none_iff_exists'.1 h
    rw [ho τ ob hob]; simp
  have hsub : ∀ b, Zof w0 Z0 κ σ.o w b → Zof w0 Z0 κ (σ.keep L M).o w b := fun b hb => ⟨hb.1, hb.2.1, fun τ hτ => hb.2.2 τ (hn τ hτ)⟩
  have hself : Same (Zof w0 Z0 κ σ.o w) w w := fun _ _ => rfl
  have ht : TabLike (fun _ => True) σ.o σ.o κ κ w w := fun τ _ => ⟨Like.refl _, rfl, fun _ b _ cur e f hb => ⟨cur, hb, rfl⟩⟩
  refine ⟨hi.kept, hi.glob, fun τ b h hb => hi.own τ b (hn τ h) hb, fun τ τ' b h h' hb hb' => hi.inj τ τ' b (hn τ h) (hn τ' h') hb hb', fun τ ob h => ?_, fun s => ?_⟩
  · exact ((hi.objs τ ob (ho τ ob h)).mono hself hsub ht rfl (fun _ _ => rfl) (fun _ _ => trivial)).sub ho
  · show VRep _ _ _ _ (if L.contains s then σ.t s else .any) _
    split
    · exact ((hi.tmps s).mono hself hsub ht (fun _ _ => trivial)).sub ho
    · trivial
section sw
variable {x y : Nat}
theorem sw_arr {τ : Nat} {e : TypeId} {sz : Nat} {nl : Option Bool} {rows : List (List C)} (h : (o (Abs.sw x y (Abs.sw x y τ))).map (O.sw x y) = some (.arr e sz nl rows)) : o τ = some (.arr e sz nl rows) := by
  rw [sw_sw] at h
  cases ho : o τ with
  | none => rw [ho] at h; cases h
  | some ob =>
    rw [ho] at h
    cases ob with
    | var => simp [O.sw] at h
    | arr => simpa [O.sw] using h
theorem sw_var {τ : Nat} {e : TypeId} {row : List K} (h : (o (Abs.sw x y (Abs.sw x y τ))).map (O.sw x y) = some (.var e row)) : ∃ row', o τ = some (.var e row') := by
  rw [sw_sw] at h
  cases ho : o τ with
  | none => rw [ho] at h; cases h
  | some ob =>
    rw [ho] at h
    cases ob with
    | var e' r => simp [O.sw] at h; exact ⟨r, by rw [h.1]⟩
    | arr => simp [O.sw] at h
theorem CapRep.sw {c : Cap} {v : Value} (h : CapRep w Z κ o c v) : CapRep w Z (fun s => κ (Abs.sw x y s)) (fun s => (o (Abs.sw x y s)).map (O.sw x y)) (c.sw x y) v := by
  cases c with
  | tok τ =>
    intro e row h'
    obtain ⟨row', hr⟩ := sw_var (x := x) (y := y) h'
    simp only [sw_sw]
    exact h e row' hr
  | ro => exact h
theorem KRep.sw {k : K} {v : Value} (h : KRep w Z κ o k v) : KRep w Z (fun s => κ (Abs.sw x y s)) (fun s => (o (Abs.sw x y s)).map (O.sw x y)) (k.sw x y) v := by
  cases k with
  | own τ =>
    intro e sz nl rows h'
    simp only [sw_sw]
    exact h e sz nl rows (sw_arr h')
  | ptr τ off =>
    intro e row h'
    obtain ⟨row', hr⟩ := sw_var (x := x) (y := y) h'
    simp only [sw_sw]
    exact h e row' hr
  | elem τ i off =>
    intro e sz nl rows h'
    simp only [sw_sw]
    exact h e sz nl rows (sw_arr h')
  | fnk f caps =>
    obtain ⟨vs, h1, h2, h3⟩ := h
    refine ⟨vs, h1, by simpa using h2, fun j c hc => ?_⟩
    simp only [List.getElem?_map, Option.map_eq_some_iff] at hc
    obtain ⟨c', hc', rfl⟩ := hc
    obtain ⟨u, hu, hr⟩ := h3 j c' hc'
    exact ⟨u, hu, hr.sw⟩
  | _ => exact h
theorem KRow.sw {r : List K} {cs : List Value} (h : KRow w Z κ o r cs) : KRow w Z (fun s => κ (Abs.sw x y s)) (fun s => (o (Abs.sw x y s)).map (O.sw x y)) (r.map (K.sw x y)) cs := by
  refine ⟨by simpa using h.1, fun j k v hk hv => ?_⟩
  simp only [List.getElem?_map, Option.map_eq_some_iff] at hk
  obtain ⟨k', hk', rfl⟩ := hk
  exact ⟨(h.2 j k' v hk' hv).1, (h.2 j k' v hk' hv).2.sw⟩
theorem VRep.sw {a : V} {v : Value} (h : VRep w Z κ o a v) : VRep w Z (fun s => κ (Abs.sw x y s)) (fun s => (o (Abs.sw x y s)).map (O.sw x y)) (a.sw x y) v := by
  cases a with
  | k a => exact ⟨h.1, KRep.sw h.2⟩
  | agg r => exact h
  | agk r => obtain ⟨cs, e, h⟩ := h; exact ⟨cs, e, h.sw⟩
  | tup vs => trivial
  | undef => exact h
  | any => trivial
theorem sw_le (σ : St) (x y : Nat) : σ.le (σ.sw x y) := by
  intro w0 Z0 κ fr w hi
  refine ⟨fun s => κ (Abs.sw x y s), ?_⟩
  have hn : ∀ s, (σ.sw x y).o s ≠ none → σ.o (Abs.sw x y s) ≠ none := by
    intro s h e
    apply h
    show (σ.o (Abs.sw x y s)).map (O.sw x y) = none
    rw [e]; rfl
  have hself : Same (Zof w0 Z0 κ σ.o w) w w := fun _ _ => rfl
  have hsub : ∀ b, Zof w0 Z0 κ σ.o w b → Zof w0 Z0 (fun s => κ (Abs.sw x y s)) (σ.sw x y).o w b := fun b hb => ⟨hb.1, hb.2.1, fun s hs => hb.2.2 _ (hn s hs)⟩
  have ht : TabLike (fun _ => True) σ.o σ.o κ κ w w := fun τ _ => ⟨Like.refl _, rfl, fun _ b _ cur e f hb => ⟨cur, hb, rfl⟩⟩
  refine ⟨hi.kept, hi.glob, fun s b h hb => hi.own _ b (hn s h) hb, fun s s' b h h' hb hb' => ?_, fun s ob h => ?_, fun s => ?_⟩
  · have := hi.inj _ _ b (hn s h) (hn s' h') hb hb'
    have := congrArg (Abs.sw x y) this
    rwa [sw_sw, sw_sw] at this
  · have h' : (σ.o (Abs.sw x y s)).map (O.sw x y) = some ob := h
    simp only [Option.map_eq_some_iff] at h'
    obtain ⟨ob0, h0, rfl⟩ := h'
    have := (hi.objs _ ob0 h0).mono (Z' := Zof w0 Z0 (fun s => κ (Abs.sw x y s)) (σ.sw x y).o w) hself hsub ht rfl (fun _ _ => rfl) (fun _ _ => trivial)
    cases ob0 with
    | var e row =>
      obtain ⟨b, cur, h1, h2, h3⟩ := this
      exact ⟨b, cur, h1, h2, h3.sw⟩
    | arr e sz nl rows => exact this
  · exact ((hi.tmps s).mono hself hsub ht (fun _ _ => trivial)).sw
end sw
theorem ownNil_le {τ A e sz z : Nat} {e' : TypeId} (hτ : σ.o τ = some (.var e' [.c (.list z (some true) [])])) (hA : σ.noA A) : σ.le (σ.ownNil τ A e sz e') := by
  intro w0 Z0 κ fr w hi
  obtain ⟨hA0, hA1, hA2⟩ := hA
  have hne : τ ≠ A := by rintro rfl; rw [hA0] at hτ; cases hτ
  refine ⟨fun s => if s = A then none else κ s, ?_⟩
  have ho : ∀ s, s ≠ A → s ≠ τ → (σ.ownNil τ A e sz e').o s = σ.o s := fun s h1 h2 => by simp [St.ownNil, h1, h2]
  have hn : ∀ s, s ≠ A → (σ.ownNil τ A e sz e').o s ≠ none → σ.o s ≠ none := by
    intro s h1 h
    by_cases h2 : s = τ
    · subst h2; rw [hτ]; simp
    · rw [ho s h1 h2] at h; exact h
  have hsub : ∀ b, Zof w0 Z0 κ σ.o w b → Zof w0 Z0 (fun s => if s = A then none else κ s) (σ.ownNil τ A e sz e').o w b := by
    intro b hb
    refine ⟨hb.1, hb.2.1, fun s hs => ?_⟩
    by_cases h : s = A
    · simp [h]
    · simp only [h, if_false]; exact hb.2.2 s (hn s h hs)
  have hself : Same (Zof w0 Z0 κ σ.o w) w w := fun _ _ => rfl
  have ht : TabLike (fun s => s ≠ A) σ.o (σ.ownNil τ A e sz e').o κ (fun s => if s = A then none else κ s) w w := by
    intro s hs
    refine ⟨?_, by simp [hs], fun _ b _ cur e f hb => ⟨cur, hb, rfl⟩⟩
    by_cases h2 : s = τ
    · subst h2; rw [hτ]; simp [St.ownNil, hs, Like]
    · rw [ho s hs h2]; exact Like.refl _
  refine ⟨hi.kept, hi.glob, fun s b h hb => ?_, fun s s' b h h' hb hb' => ?_, fun s ob h => ?_, fun s => ?_⟩
  · by_cases h1 : s = A
    · simp [h1] at hb
    · simp only [h1, if_false] at hb; exact hi.own s b (hn s h1 h) hb
  · by_cases h1 : s = A
    · simp [h1] at hb
    · by_cases h2 : s' = A
      · simp [h2] at hb'
      · simp only [h1, h2, if_false] at hb hb'
        exact hi.inj s s' b (hn s h1 h) (hn s' h2 h') hb hb'
  · by_cases h1 : s = A
    · subst h1
      simp [St.ownNil] at h
      subst h
      exact .inl ⟨by simp, rfl, by simp⟩
    · by_cases h2 : s = τ
      · subst h2
        simp [St.ownNil, h1] at h
        subst h
        obtain ⟨b, cur, hb, hh, hr⟩ := hi.objs s _ hτ
        refine ⟨b, cur, by simp [h1, hb], hh, hr.1, fun j k v hk hv => ?_⟩
        cases j with
        | succ j => simp at hk
        | zero =>
          simp at hk
          subst hk
          obtain ⟨hone, hrep⟩ := hr.2 0 _ v rfl hv
          refine ⟨hone, fun e2 sz2 nl2 rows2 _ => .inl ⟨by simp, ?_⟩⟩
          have hrep' : PRep w (Zof w0 Z0 κ σ.o w) (.list z (some true) []) v := hrep
          generalize hnl : (some true : Option Bool) = nl at hrep'
          generalize hrw : ([] : List (List C)) = rw0 at hrep'
          cases hrep' with
          | nil => rfl
          | emp _ _ a h => exact absurd hnl.symm h
          | list _ _ _ _ _ _ _ h => exact absurd hnl.symm h
      · rw [ho s h1 h2] at h
        exact (hi.objs s ob h).mono hself hsub ht (by simp [h1]) (fun _ _ => rfl) (fun τ' hτ' => by rintro rfl; rw [hA2 s ob h] at hτ'; cases hτ')
  · exact (hi.tmps s).mono hself hsub ht (fun τ' hτ' => by rintro rfl; rw [hA1 s] at hτ'; cases hτ')
theorem Wk.trans {K : St → Prop} {σ' : St} (h : σ.le σ') (hk : Wk K σ') : Wk K σ := by
  obtain ⟨σ2, h2, h3⟩ := hk
  refine ⟨σ2, fun w0 Z0 κ fr w hi => ?_, h3⟩
  obtain ⟨κ', hi'⟩ := h w0 Z0 κ fr w hi
  exact h2 w0 Z0 κ' fr w hi'
theorem Wk.mono {K K' : St → Prop} (hk : ∀ σ, K σ → K' σ) (h : Wk K σ) : Wk K' σ := let ⟨σ', h1, h2⟩ := h; ⟨σ', h1, hk _ h2⟩
theorem Wk.in {K : St → Prop} (h : K σ) : Wk K σ := ⟨σ, fun _ _ κ _ _ h => ⟨κ, h⟩, h⟩
theorem Wk.bind {K K' : St → Prop} (h : Wk K σ) (hk : ∀ σ, K σ → Wk K' σ) : Wk K' σ := let ⟨_, h1, h2⟩ := h; Wk.trans h1 (hk _ h2)
theorem wpAI_mono {i : AI} {K K' : St → Prop} (hk : ∀ σ, K σ → K' σ) (h : wpAI P i K σ) : wpAI P i K' σ := by
  obtain ⟨g, op⟩ := i
  cases g with
  | none => exact exOp_mono hk h
  | some sw =>
    obtain ⟨s, want⟩ := sw
    simp only [wpAI] at h ⊢
    split at h
    · rename_i hb; exact ⟨fun hq => exOp_mono hk (h.1 hq), fun hq => hk _ (h.2 hq)⟩
    · exact hk _ h
    · exact h.elim
theorem wpAIs_mono : ∀ {l : List AI} {K K' : St → Prop} {σ : St}, (∀ σ, K σ → K' σ) → wpAIs P l K σ → wpAIs P l K' σ
  | [], _, _, σ, hk, h => hk σ h
  | i :: l, K, K', σ, hk, h => wpAI_mono (fun σ h => wpAIs_mono hk h) h
theorem wpT_mono : ∀ {t : DT} {K K' : St → Prop} {σ : St}, (∀ σ, K σ → K' σ) → wpT P t K σ → wpT P t K' σ
  | .done, _, _, σ, hk, h => hk σ h
  | .fail, _, _, σ, hk, h => h
  | .top, _, _, σ, hk, h => trivial
  | .one i t, K, K', σ, hk, h => wpQ_mono (fun σ h => wpT_mono (t := t) hk h) h
  | .alt a b, K, K', σ, hk, h => ⟨wpT_mono (t := a) hk h.1, wpT_mono (t := b) hk h.2⟩
theorem then_mono {A B : St → Prop} {Q Q' : AE → St → Prop} (h1 : ∀ σ, A σ → B σ) (h2 : ∀ e σ, Q e σ → Q' e σ) : ∀ e σ, AE.then A Q e σ → AE.then B Q' e σ := by
  intro e σ h
  cases e with
  | normal => exact h1 σ h
  | exit i => exact h2 _ σ h
  | ret => exact h2 _ σ h
theorem inBlock_mono {id : Nat} {Q Q' : AE → St → Prop} (h2 : ∀ e σ, Q e σ → Q' e σ) : ∀ e σ, AE.inBlock id Q e σ → AE.inBlock id Q' e σ := by
  intro e σ h
  cases e with
  | normal => exact h2 _ σ h
  | exit i =>
    simp only [AE.inBlock] at h ⊢
    split
    · rename_i hi; rw [if_pos hi] at h; exact h2 _ σ h
    · rename_i hi; rw [if_neg hi] at h; exact h2 _ σ h
  | ret => exact h2 _ σ h
theorem wpRs_mono : ∀ {l : List AI} {K K' : St → Prop} {σ : St}, (∀ σ, K σ → K' σ) → wpRs P l K σ → wpRs P l K' σ
  | [], _, _, _, hk, h => Wk.mono hk h
  | _ :: _, _, _, _, hk, h => Wk.mono (fun _ h => wpAI_mono (fun _ h => wpRs_mono hk h) h) h
theorem wpRs_le : ∀ {l : List AI} {K : St → Prop} {σ σ' : St}, σ.le σ' → wpRs P l K σ' → wpRs P l K σ
  | [], _, _, _, hl, h => Wk.trans hl h
  | _ :: _, _, _, _, hl, h => Wk.trans hl h
theorem wpRs_of : ∀ {l : List AI} {K K' : St → Prop} {σ : St}, (∀ σ, K σ → K' σ) → wpAIs P l K σ → wpRs P l K' σ
  | [], _, _, σ, hk, h => .in (hk σ h)
  | _ :: _, _, _, _, hk, h => .in (wpAI_mono (fun _ h => wpRs_of hk h) h)
theorem wpRs_app : ∀ {l1 l2 : List AI} {K : St → Prop} {σ : St}, wpAIs P l1 (fun σ => wpRs P l2 K σ) σ → wpRs P (l1 ++ l2) K σ
  | [], _, _, _, h => h
  | _ :: _, _, _, _, h => .in (wpAI_mono (fun _ h => wpRs_app h) h)
theorem frzA_le : ∀ (τs : List Nat) (σ : St), σ.le (St.frzA τs σ)
  | [], _ => fun _ _ κ _ _ h => ⟨κ, h⟩
  | τ :: l, σ => fun w0 Z0 κ fr w h => frzA_le l (σ.frz τ) w0 Z0 κ fr w (h.frz τ)
theorem wpPs_rs : ∀ {ps : List (List AI × List Nat)} {K K' : St → Prop} {σ : St}, (∀ σ, K σ → K' σ) → wpPs P ps K σ → wpRs P (ps.flatMap fun p => p.1) K' σ
  | [], _, _, σ, hk, h => .in (hk σ h)
  | p :: r, _, _, σ, hk, h => by
    rw [List.flatMap_cons]
    exact wpRs_app (wpAIs_mono (fun σ h => wpRs_le (frzA_le p.2 σ) (wpPs_rs hk h)) h)
theorem awp_mono (c : AC) : ∀ {Q Q' : AE → St → Prop} {σ : St}, (∀ e σ, Q e σ → Q' e σ) → awp P c Q σ → awp P c Q' σ := by
  induction c with
  | skip => intro Q Q' σ hq h; exact hq _ σ h
  | region l => intro Q Q' σ hq h; exact wpRs_mono (hq .normal) h
  | draw l p => intro Q Q' σ hq h; exact Or.imp (fun h => ⟨h.1, wpQs_mono (hq .normal) h.2⟩) (fun h => wpT_mono (hq .normal) h) h
  | seq a b iha ihb =>
    intro Q Q' σ hq h
    exact iha (then_mono (fun σ h => Wk.mono (fun σ h => ihb hq h) h) hq) h
  | cond c a b iha ihb =>
    intro Q Q' σ hq h
    simp only [awp, AX.evg] at h ⊢
    refine ⟨h.1, ?_⟩
    have h2 := h.2
    generalize (AX.ev σ c).strip.1 = v at h2 ⊢
    split at h2
    · exact ⟨fun ht => Wk.mono (fun σ h => iha hq h) (h2.1 ht), fun ht => Wk.mono (fun σ h => ihb hq h) (h2.2 ht)⟩
    · exact h2.elim
  | block i a ih =>
    intro Q Q' σ hq h
    exact Wk.mono (fun σ h => ih (inBlock_mono hq) h) h
  | loop a ih =>
    intro Q Q' σ hq h
    obtain ⟨I, h0, h1⟩ := h
    exact ⟨I, h0, fun n σ' hI => Wk.mono (fun σ h => ih (then_mono (fun σ h => h) hq) h) (h1 n σ' hI)⟩
  | exit i => intro Q Q' σ hq h; exact hq _ σ h
  | ret => intro Q Q' σ hq h; exact hq _ σ h
theorem awq_sound (c : AQ) : c.ok = true → ∀ {Q : AE → St → Prop} {σ : St}, awq P c Q σ → Wk (awp P c.erase (fun e => Wk (Q e))) σ := by
  induction c with
  | skip => intro _ Q σ h; exact .in (.in h)
  | region l => intro _ Q σ h; exact .in (wpRs_of (fun _ h => .in h) h)
  | draw l p => intro hok Q σ h; exact .in (.inl ⟨hok, wpQs_mono (fun _ h => .in h) h⟩)
  | tree l p => intro _ Q σ h; exact .in (.inr (wpT_mono (fun _ h => .in h) h))
  | seq a b iha ihb =>
    intro hok Q σ h
    simp only [AQ.ok, Bool.and_eq_true] at hok
    refine Wk.mono (fun τ ht => awp_mono a.erase (Q' := AE.then (Wk (awp P b.erase fun e => Wk (Q e))) fun e => Wk (Q e)) (fun e σ h => ?_) ht) (iha hok.1 h)
    cases e with
    | normal => exact Wk.bind h (fun σ h => ihb hok.2 h)
    | exit i => exact h
    | ret => exact h
  | cond c a b iha ihb =>
    intro hok Q σ h
    simp only [AQ.ok, Bool.and_eq_true] at hok
    simp only [awq, AX.evg] at h
    refine .in ?_
    simp only [AQ.erase, awp, AX.evg]
    refine ⟨h.1, ?_⟩
    have h2 := h.2
    generalize (AX.ev σ c).strip.1 = v at h2 ⊢
    split at h2
    · exact ⟨fun ht => iha hok.1 (h2.1 ht), fun ht => ihb hok.2 (h2.2 ht)⟩
    · exact h2.elim
  | block i a ih =>
    intro hok Q σ h
    refine .in (Wk.mono (fun τ ht => awp_mono a.erase (Q' := AE.inBlock i fun e => Wk (Q e)) (fun e σ h => ?_) ht) (ih hok h))
    cases e with
    | normal => exact h
    | exit j =>
      have e1 : AE.inBlock i Q (.exit j) = if j = i then Q .normal else Q (.exit j) := by funext σ; simp only [AE.inBlock]; split <;> rfl
      rw [e1] at h
      simp only [AE.inBlock]
      split
      · rename_i hi; rw [if_pos hi] at h; exact h
      · rename_i hi; rw [if_neg hi] at h; exact h
    | ret => exact h
  | loop L M a ih =>
    intro hok Q σ h
    obtain ⟨I, h0, h1⟩ := h
    refine .in ⟨I, Wk.trans (keep_le σ L M) (.in h0), fun n σ' hI => Wk.mono (fun τ ht => awp_mono a.erase (Q' := AE.then (Wk fun σ'' => ∃ m, m < n ∧ I m σ'') fun e => Wk (Q e)) (fun e σ h => ?_) ht) (ih hok (h1 n σ' hI))⟩
    cases e with
    | normal =>
      have h' : Wk (fun τ => ∃ m, m < n ∧ I m (τ.keep L M)) σ := h
      exact Wk.bind h' (fun τ ht => Wk.trans (keep_le τ L M) (.in ht))
    | exit j => exact h
    | ret => exact h
  | exit i => intro _ Q σ h; exact .in (.in h)
  | ret => intro _ Q σ h; exact .in (.in h)
  | keep L M a ih => intro hok Q σ h; exact Wk.trans (keep_le σ L M) (ih hok h)
  | own τ A e sz a ih =>
    intro hok Q σ h
    obtain ⟨e', z, h1, h2, h3⟩ := h
    exact Wk.trans (ownNil_le h1 h2) (ih hok h3)
  | swap x y a ih => intro hok Q σ h; exact Wk.trans (sw_le σ x y) (ih hok h)
  | frz τ a ih => intro hok Q σ h; exact Wk.trans (fun _ _ κ _ _ hi => ⟨κ, hi.frz τ⟩) (ih hok h)
  | regs ps => intro _ Q σ h; exact .in (wpPs_rs (fun _ h => .in h) h)
  | regf l1 τs l2 => intro _ Q σ h; exact .in (wpRs_app (wpAIs_mono (fun σ h => wpRs_le (frzA_le τs σ) (wpRs_of (fun _ h => .in h) h)) h))
theorem Spec.of_awq {f : FuncId} {n : Nat} {c : AQ} {rs : List RX} {args : List V} {S : V → Prop} (hc : cFunc P f = some ⟨n, c.erase, rs⟩) (hok : c.ok = true) (hlen : args.length ≤ n) (h : awq P c (endQ rs S) (St.init args)) : Spec P f args S :=
  Spec.of_cFunc (ac := c.erase) (rs := rs) (n := n) hc hlen (awq_sound c hok (Q := endQ rs S) h)
theorem SpecS.of_awq {f : FuncId} {n : Nat} {c : AQ} {rs : List RX} {args : List V} {o : Nat → Option O} {T : List Nat} {anchors : List (Nat × Nat)} {S : V → (Nat → Option O) → Prop} (hc : cFunc P f = some ⟨n, c.erase, rs⟩) (hok : c.ok = true) (hlen : args.length ≤ n)
    (hav : c.erase.avoids (fun s => anchors.any fun p => p.1 == s) = true) (h : awq P c (endS rs args o T anchors S) ⟨fun s => args.getD s .any, o⟩) : SpecS P f args o (anchors.map (·.2)) S := by
  have h2 := awq_sound c hok h
  have h3 := @SpecS.of_cFunc P f n c.erase rs args o T anchors S hc hlen hav
  with_reducible exact h3 h2
end
end Go.Abs


namespace Go.Abs
abbrev TS := List (Nat × V)
abbrev OS := List (Nat × O)
abbrev KK := TS → OS → Prop
def lookT (s : Nat) : TS → V
  | [] => .any
  | (k, v) :: l => if k = s then v else lookT s l
def lookO (s : Nat) : OS → Option O
  | [] => none
  | (k, v) :: l => if k = s then some v else lookO s l
def insT (s : Nat) (v : V) (l : TS) : TS := (s, v) :: l
theorem lookT_here (s : Nat) (v : V) (l : TS) : lookT s ((s, v) :: l) = v := by simp [lookT]
theorem lookT_next {s k : Nat} (h : (k == s) = false) (v : V) (l : TS) : lookT s ((k, v) :: l) = lookT s l := by
  have : ¬ k = s := by simpa using h
  simp [lookT, this]
def insO (s : Nat) (v : O) (l : OS) : OS := (s, v) :: l
theorem lookO_here (s : Nat) (v : O) (l : OS) : lookO s ((s, v) :: l) = some v := by simp [lookO]
theorem lookO_next {s k : Nat} (h : (k == s) = false) (v : O) (l : OS) : lookO s ((k, v) :: l) = lookO s l := by
  have : ¬ k = s := by simpa using h
  simp [lookO, this]
def mkS (ts : TS) (os : OS) : St := ⟨fun s => lookT s ts, fun s => lookO s os⟩
theorem lookT_ins (d s : Nat) (v : V) (ts : TS) : lookT s (insT d v ts) = if s = d then v else lookT s ts := by
  by_cases h : d = s
  · subst h; simp [insT, lookT]
  · simp [insT, lookT, h, Ne.symm h]
theorem lookO_ins (d s : Nat) (v : O) (os : OS) : lookO s (insO d v os) = if s = d then some v else lookO s os := by
  by_cases h : d = s
  · subst h; simp [insO, lookO]
  · simp [insO, lookO, h, Ne.symm h]
theorem mkS_put (ts : TS) (os : OS) (d : Nat) (v : V) : (mkS ts os).put d v = mkS (insT d v ts) os := by
  simp only [mkS, St.put, St.mk.injEq, and_true]
  funext s; rw [lookT_ins]
theorem mkS_setO (ts : TS) (os : OS) (d : Nat) (v : O) : (mkS ts os).setO d v = mkS ts (insO d v os) := by
  simp only [mkS, St.setO, St.mk.injEq, true_and]
  funext s; rw [lookO_ins]
theorem mkS_new (ts : TS) (os : OS) (d : Nat) (v : O) (x : V) : (mkS ts os).new d v x = mkS (insT d x ts) (insO d v os) := by
  rw [St.new, mkS_setO, mkS_put]
def freeT (d : Nat) : TS → Bool
  | [] => true
  | (k, v) :: l => (k == d || v.noRef d) && freeT d l
def freeO (d : Nat) : OS → Bool
  | [] => true
  | (k, v) :: l => (k == d || v.noRef d) && freeO d l
theorem mkS_Free {ts : TS} {os : OS} {d : Nat} (h1 : freeT d ts = true) (h2 : freeO d os = true) : (mkS ts os).Free d := by
  constructor
  · intro s hs
    show (lookT s ts).noRef d = true
    induction ts with
    | nil => rfl
    | cons p l ih =>
      obtain ⟨k, v⟩ := p
      simp only [freeT, Bool.and_eq_true, Bool.or_eq_true, beq_iff_eq] at h1
      simp only [lookT]
      split
      · rename_i hk; subst hk
        rcases h1.1 with h | h
        · exact absurd h hs
        · exact h
      · exact ih h1.2
  · intro τ ob hob hτ
    have hob' : lookO τ os = some ob := hob
    clear hob
    induction os with
    | nil => simp [lookO] at hob'
    | cons p l ih =>
      obtain ⟨k, v⟩ := p
      simp only [freeO, Bool.and_eq_true, Bool.or_eq_true, beq_iff_eq] at h2
      simp only [lookO] at hob'
      split at hob'
      · rename_i hk; subst hk
        cases hob'
        rcases h2.1 with h | h
        · exact absurd h hτ
        · exact h
      · exact ih h2.2 hob'
def mapT (f : V → V) : TS → TS
  | [] => []
  | (k, v) :: l => (k, f v) :: mapT f l
def mapO (f : O → O) : OS → OS
  | [] => []
  | (k, v) :: l => (k, f v) :: mapO f l
def delO (τ : Nat) : OS → OS
  | [] => []
  | (k, v) :: l => if k = τ then delO τ l else (k, v) :: delO τ l
theorem lookT_map (f : V → V) (hf : f .any = .any) (s : Nat) : ∀ (ts : TS), lookT s (mapT f ts) = f (lookT s ts)
  | [] => hf.symm
  | (k, v) :: l => by
    simp only [mapT, lookT, lookT_map f hf s l]
    split <;> rfl
theorem lookO_map (f : O → O) (s : Nat) : ∀ (os : OS), lookO s (mapO f os) = (lookO s os).map f
  | [] => rfl
  | (k, v) :: l => by
    simp only [mapO, lookO, lookO_map f s l]
    split <;> rfl
theorem lookO_del (τ s : Nat) : ∀ (os : OS), lookO s (delO τ os) = if s = τ then none else lookO s os
  | [] => by simp [delO, lookO]
  | (k, v) :: l => by
    simp only [delO]
    by_cases h : k = τ
    · subst h
      rw [if_pos rfl, lookO_del k s l]
      by_cases h2 : s = k
      · simp [h2]
      · simp [h2, lookO, Ne.symm h2]
    · rw [if_neg h]
      simp only [lookO, lookO_del τ s l]
      by_cases h2 : k = s
      · subst h2; simp [h]
      · simp [h2]
def frzT (τ : Nat) (ts : TS) (os : OS) : Option O → TS
  | none => ts
  | some ob => mapT (fun v => v.frz τ ob) ts
def frzO (τ : Nat) (os : OS) : Option O → OS
  | none => os
  | some ob => mapO (O.frz τ ob) (delO τ os)
theorem mkS_frz (ts : TS) (os : OS) (τ : Nat) : (mkS ts os).frz τ = mkS (frzT τ ts os (lookO τ os)) (frzO τ os (lookO τ os)) := by
  unfold St.frz
  have e : (mkS ts os).o τ = lookO τ os := rfl
  rw [e]
  cases lookO τ os with
  | none => rfl
  | some ob =>
    simp only [mkS, frzT, frzO, St.mk.injEq]
    constructor
    · funext s; rw [lookT_map _ rfl]
    · funext s
      rw [lookO_map, lookO_del]
      split <;> rfl
def keepT (ts : TS) : List Nat → TS
  | [] => []
  | s :: L => (s, lookT s ts) :: keepT ts L
def addO (m : Nat) (o : Option O) (l : OS) : OS := match o with | some ob => (m, ob) :: l | none => l
def keepO (os : OS) : List Nat → OS
  | [] => []
  | m :: M => addO m (lookO m os) (keepO os M)
theorem lookT_keepT (ts : TS) (s : Nat) : ∀ (L : List Nat), lookT s (keepT ts L) = if L.contains s then lookT s ts else .any
  | [] => by simp [keepT, lookT]
  | k :: L => by
    simp only [keepT, lookT, lookT_keepT ts s L, List.contains_cons]
    by_cases h : k = s
    · subst h; simp
    · simp [h, Ne.symm h]
theorem lookO_keepO (os : OS) (s : Nat) : ∀ (M : List Nat), lookO s (keepO os M) = if M.contains s then lookO s os else none
  | [] => by simp [keepO, lookO]
  | k :: M => by
    simp only [keepO, List.contains_cons]
    by_cases h : k = s
    · subst h
      cases ho : lookO k os with
      | none => simp only [addO]; rw [lookO_keepO os k M, ho]; simp
      | some ob => simp [addO, lookO]
    · cases ho : lookO k os with
      | none => simp only [addO]; rw [lookO_keepO os s M]; simp [Ne.symm h]
      | some ob => simp only [addO, lookO, if_neg h]; rw [lookO_keepO os s M]; simp [Ne.symm h]
theorem mkS_keep (ts : TS) (os : OS) (L M : List Nat) : (mkS ts os).keep L M = mkS (keepT ts L) (keepO os M) := by
  simp only [St.keep, mkS, St.mk.injEq]
  constructor
  · funext s; rw [lookT_keepT]
  · funext s; rw [lookO_keepO]; rfl
theorem mkS_nrm (ts : TS) (os : OS) : (mkS ts os).nrm = mkS (mapT V.nrm ts) (mapO O.nrm os) := by
  simp only [St.nrm, mkS, St.mk.injEq]
  constructor
  · funext s; rw [lookT_map _ rfl]
  · funext s; rw [lookO_map]
def initT : Nat → List V → TS
  | _, [] => []
  | k, v :: l => (k, v) :: initT (k + 1) l
theorem lookT_init : ∀ (l : List V) (k s : Nat), lookT s (initT k l) = if k ≤ s then l.getD (s - k) .any else .any
  | [], k, s => by simp [initT, lookT]
  | v :: l, k, s => by
    simp only [initT, lookT]
    by_cases h : k = s
    · subst h; simp
    · rw [if_neg h, lookT_init l (k + 1) s]
      by_cases h2 : k ≤ s
      · rw [if_pos h2, if_pos (by omega)]
        have : s - k = (s - (k + 1)) + 1 := by omega
        rw [this]; simp
      · rw [if_neg h2, if_neg (by omega)]
theorem init_mkS (args : List V) (os : OS) : (⟨fun s => args.getD s .any, fun s => lookO s os⟩ : St) = mkS (initT 0 args) os := by
  simp only [mkS, St.mk.injEq, and_true]
  funext s; rw [lookT_init]; simp
def onS (K : KK) (σ : St) : Prop := ∃ ts os, σ = mkS ts os ∧ K ts os
theorem onS_mk {K : KK} {ts : TS} {os : OS} (h : K ts os) : onS K (mkS ts os) := ⟨ts, os, rfl, h⟩
def look (ts : TS) : AX → V
  | .t s => lookT s ts
  | .v v => v
theorem look_ev (ts : TS) (os : OS) (x : AX) : x.ev (mkS ts os) = look ts x := by cases x <;> rfl
def putK (r : Option (Prop × V)) (K : KK) (d : Nat) (ts : TS) (os : OS) : Prop :=
  match r with | some (p, v) => p ∧ K (insT d v ts) os | none => False
def freeB (d : Nat) (ts : TS) (os : OS) : Prop := (freeT d ts && freeO d os) = true
def boxK (v : V) (K : KK) (d e : Nat) (ts : TS) (os : OS) : Prop :=
  match v with
  | .agg r => freeB d ts os ∧ K (insT d (.k (.ptr d 0)) ts) (insO d (.var e (r.map .c)) os)
  | .k x => x.noRef d = true ∧ freeB d ts os ∧ K (insT d (.k (.ptr d 0)) ts) (insO d (.var e [x]) os)
  | .agk r => r.all (Abs.K.noRef d) = true ∧ freeB d ts os ∧ K (insT d (.k (.ptr d 0)) ts) (insO d (.var e r) os)
  | _ => False
def vRow : V → Option (List C)
  | .k (.c x) => some [x]
  | .agg r => some r
  | _ => none
def vLits : List (Nat × V) → Option (List (Nat × List C))
  | [] => some []
  | (i, v) :: ps => match vRow v, vLits ps with
    | some r, some l => some ((i, r) :: l)
    | _, _ => none
def bsK (l : Option (List (Nat × List C))) (K : KK) (d e sz : Nat) (zero : List C) (len : Nat) (ts : TS) (os : OS) : Prop :=
  match l with
  | some l => freeB d ts os ∧ zero.length = sz ∧ (∀ p ∈ l, p.1 < len ∧ p.2.length = sz) ∧
      K (insT d (.k (.own d)) ts) (insO d (.arr e sz (some false) (l.foldl (fun rows p => rows.set p.1 p.2) (List.replicate len zero))) os)
  | none => False
def bsQ (l : Option (List (Nat × List C))) (K : KK) (d sz : Nat) (zero : List C) (len : Nat) (ts : TS) (os : OS) : Prop :=
  match l with
  | some l => zero.length = sz ∧ (∀ p ∈ l, p.1 < len ∧ p.2.length = sz) ∧
      K (insT d (.list sz (some false) (l.foldl (fun rows p => rows.set p.1 p.2) (List.replicate len zero))) ts) os
  | none => False
def stVarK (ob : Option O) (ks : Option (List Abs.K)) (K : KK) (n τ off : Nat) (ts : TS) (os : OS) : Prop :=
  match ob, ks with
  | some (.var e row), some ks => ks.length = n ∧ off + n ≤ row.length ∧ K ts (insO τ (.var e (splice row off ks)) os)
  | _, _ => False
def stArrK (ob : Option O) (r : Option (List C)) (K : KK) (n τ i off : Nat) (ts : TS) (os : OS) : Prop :=
  match ob, r with
  | some (.arr e sz nl rows), some r => r.length = n ∧ off + n ≤ sz ∧ K ts (insO τ (.arr e sz nl (rows.set i (if off = 0 ∧ n = sz then r else splice (rows.getD i []) off r))) os)
  | _, _ => False
def storeK (x y : V) (K : KK) (n : Nat) (ts : TS) (os : OS) : Prop :=
  match x with
  | .k (.ptr τ off) => stVarK (lookO τ os) y.cells K n τ off ts os
  | .k (.elem τ i off) => stArrK (lookO τ os) (vRow y) K n τ i off ts os
  | _ => False
def mkslK (l c : V) (K : KK) (d e sz bytes : Nat) (zero : List C) (ts : TS) (os : OS) : Prop :=
  match l, c with
  | .k (.c (.int _ l)), .k (.c (.int _ c)) =>
    0 ≤ l ∧ l ≤ c ∧ bytes * c ≤ 281474976710656 ∧ c ≤ 9223372036854775807 ∧ zero.length = sz ∧ freeB d ts os ∧ K (insT d (.k (.own d)) ts) (insO d (.arr e sz (some false) (List.replicate l.toNat zero)) os)
  | _, _ => False
def srcO (sz : Nat) : Option O → Option (Prop × List (List C))
  | some (.arr _ sz' _ rows) => some (sz' = sz, rows)
  | _ => none
def srcV (os : OS) (sz : Nat) : V → Option (Prop × List (List C))
  | .k (.c (.list sz' _ rows)) => some (sz' = sz ∨ rows = [], rows)
  | .k (.own τ) => srcO sz (lookO τ os)
  | _ => none
def appK (ob : Option O) (src : Option (Prop × List (List C))) (K : KK) (d e sz bytes τ : Nat) (ts : TS) (os : OS) : Prop :=
  match ob, src with
  | some (.arr e' sz' nl xs), some (p, ys) => p ∧ e' = e ∧ sz' = sz ∧ xs.length + ys.length ≤ 9223372036854775807 ∧ (xs.length + ys.length) * bytes ≤ 140737488355328 ∧
      K (insT d (.k (.own τ)) (mapT (V.scrub τ) ts)) (insO τ (.arr e sz (nlApp nl ys) (xs ++ ys)) (mapO (O.scrub τ) (delO τ os)))
  | _, _ => False
def appNK (src : Option (Prop × List (List C))) (K : KK) (d e sz bytes : Nat) (ts : TS) (os : OS) : Prop :=
  match src with
  | some (p, ys) => p ∧ freeB d ts os ∧ ys.length ≤ 9223372036854775807 ∧ ys.length * bytes ≤ 140737488355328 ∧ K (insT d (.k (.own d)) ts) (insO d (.arr e sz (nlApp (some true) ys) ys) os)
  | none => False
def appendK (x : V) (src : Option (Prop × List (List C))) (K : KK) (d e sz bytes : Nat) (ts : TS) (os : OS) : Prop :=
  match x with
  | .k (.own τ) => appK (lookO τ os) src K d e sz bytes τ ts os
  | .k (.c (.list _ (some true) [])) => appNK src K d e sz bytes ts os
  | _ => False
def lendO : Option O → V
  | some (.arr _ sz nl rows) => .list sz nl rows
  | _ => .any
def lendL (os : OS) : V → V
  | .k (.own τ) => lendO (lookO τ os)
  | v => v
theorem lendL_eq (ts : TS) (os : OS) (v : V) : v.lend (mkS ts os) = lendL os v := by
  unfold V.lend lendL
  split
  · show (match lookO _ os with | some (.arr _ sz nl rows) => V.list sz nl rows | _ => .any) = _
    unfold lendO
    rfl
  · rename_i h
    split
    · exact absurd rfl (h _)
    · rfl
def freesL (d n : Nat) (ts : TS) (os : OS) : Nat → Prop
  | 0 => True
  | k + 1 => (freeB n ts os ∧ (n = d ∨ (lookT n ts).noRef n = true)) ∧ freesL d (n + 1) ts os k
def addsL (n : Nat) : List O → OS → OS
  | [], os => os
  | ob :: l, os => addsL (n + 1) l (insO n ob os)
def regK (r : V × List O) (K : KK) (d n : Nat) (ts : TS) (os : OS) : Prop :=
  freesL d n ts os r.2.length ∧ K (insT d r.1 ts) (addsL n r.2 os)
def retK (r : V) (K : KK) (ts : TS) (os : OS) : Option Nat → Prop
  | none => K ts os
  | some d => regK (r.reg (regN d r)) K d (regN d r) ts os
def putDK (r : V) (K : KK) (ts : TS) (os : OS) : Option Nat → Prop
  | none => K ts os
  | some d => K (insT d r ts) os
def callK (P : Program) (f : FuncId) (vs : List V) (cs : List C) (K : KK) (d : Option Nat) (ts : TS) (os : OS) : Prop :=
  vs.all (fun v => (lendL os v).isPure) = true ∧ ∃ r, (Spec P f (vs.map (fun v => (lendL os v).norm) ++ cs.map fun c => .k (.c c.norm)) (fun r' => r' = r) ∨ (cs = [] ∧ Spec P f (vs.map (lendL os)) (fun r' => r' = r))) ∧
    (if r.scalar = true then putDK r K ts os d else vs.all (fun v => v.toks.isEmpty) = true ∧ retK r K ts os d)
def callvK (P : Program) (x : V) (vs : List V) (K : KK) (d : Option Nat) (ts : TS) (os : OS) : Prop :=
  match x with
  | .k (.c (.fn f cs)) => callK P f vs cs K d ts os
  | _ => False
def callQK (P : Program) (f : FuncId) (vs : List V) (cs : List C) (K : KK) (d : Nat) (ts : TS) (os : OS) : Prop :=
  vs.all (fun v => (lendL os v).isPure) = true ∧ ∃ r, Spec P f (vs.map (fun v => (lendL os v).norm) ++ cs.map fun c => .k (.c c.norm)) (fun r' => r' = r) ∧
    (r.scalar = true ∨ vs.all (fun v => v.toks.isEmpty) = true) ∧ K (insT d r.fz ts) os
def callvQK (P : Program) (x : V) (vs : List V) (K : KK) (d : Nat) (ts : TS) (os : OS) : Prop :=
  match x with
  | .k (.c (.fn f cs)) => callQK P f vs cs K d ts os
  | _ => False
def callSK (P : Program) (f : FuncId) (vs : List V) (caps : List Cap) (K : KK) (d : Option Nat) (ts : TS) (os : OS) : Prop :=
  ∃ (T A dead : List Nat) (S : V → (Nat → Option O) → Prop),
    ((vs ++ caps.map capV).all (V.within T) = true) ∧ (caps.all (Cap.live (fun s => lookO s os)) = true) ∧ (∀ τ, τ ∈ T → ∀ ob, lookO τ os = some ob → ob.within T = true) ∧
    (∀ τ, τ ∈ T → τ ∈ A ∨ τ ∈ dead) ∧
    SpecS P f ((vs ++ caps.map capV).map V.nrm) (tabIn T fun τ => (lookO τ os).map O.nrm) A S ∧
    ∀ r o', S r o' → (∀ τ, τ ∉ T → o' τ = none) ∧ r.within T = true ∧ (∀ τ ob, o' τ = some ob → ob.within T = true) ∧ onS K (putD ((mkS ts os).back T dead o') d r)
def plainO : Option O → Prop
  | some (.var _ row) => row.flatMap Abs.K.toks = []
  | _ => True
def callFK (P : Program) (f : FuncId) (xs : List AX) (K : KK) (d : Option Nat) (ts : TS) (os : OS) : Prop :=
  ∃ τ, (xs.map (look ts)).flatMap V.hard = [τ] ∧ plainO (lookO τ os) ∧ callK P f (xs.map (look (frzT τ ts os (lookO τ os)))) [] K d (frzT τ ts os (lookO τ os)) (frzO τ os (lookO τ os))
def callOK (P : Program) (f : FuncId) (xs : List AX) (K : KK) (d : Option Nat) (ts : TS) (os : OS) : Prop :=
  (xs.map (look ts)).all (fun v => (lendL os v).isPure) = true ∧ ∃ τ r, Spec P f ((xs.map (look ts)).map fun v => (lendL os v).norm) (fun r' => r' = r) ∧ r.scalar = false ∧
    (xs.map (look ts)).flatMap V.toks = [τ] ∧ plainO (lookO τ os) ∧ retK r K (frzT τ ts os (lookO τ os)) (frzO τ os (lookO τ os)) d
def callSF (P : Program) (f : FuncId) (vs : List V) (xs : List AX) (K : KK) (d : Option Nat) (ts : TS) (os : OS) : Prop :=
  callSK P f vs [] K d ts os ∨ (vs = xs.map (look ts) ∧ (callFK P f xs K d ts os ∨ callOK P f xs K d ts os))
def exL (P : Program) (ts : TS) (os : OS) : AOp → KK → Prop
  | .mov d x, K => K (insT d (look ts x) ts) os
  | .nilL d e sz, K => freeB d ts os ∧ K (insT d (.k (.own d)) ts) (insO d (.arr e sz (some true) []) os)
  | .pick d c a b, K => putK (vPick (look ts c) (look ts a) (look ts b)) K d ts os
  | .alloc d e zero, K => freeB d ts os ∧ K (insT d (.k (.ptr d 0)) ts) (insO d (.var e (zero.map .c)) os)
  | .box d e x, K => boxK (look ts x) K d e ts os
  | .build d zero ps, K => putK (rowV (vBuild (ps.map fun p => (p.1, p.2.1, look ts p.2.2)) (zero.map .c))) K d ts os
  | .bslice d e sz zero len ps, K => bsK (vLits (ps.map fun p => (p.1, look ts p.2))) K d e sz zero len ts os
  | .load d n agg x, K => putK (vLoad (fun s => lookO s os) n agg (look ts x)) K d ts os
  | .store n x y, K => storeK (look ts x) (look ts y) K n ts os
  | .nilchk d x, K => putK (nilchkO (fun s => lookO s os) (look ts x)) K d ts os
  | .bin d op x y, K => putK (vBin op (look ts x) (look ts y)) K d ts os
  | .binB d neg x y, K => putK (vBinB neg (look ts x) (look ts y)) K d ts os
  | .eqAgg d neg tys x y, K => putK (vEqAgg neg tys (look ts x) (look ts y)) K d ts os
  | .nilcmp d neg x, K => putK (vNil (fun s => lookO s os) neg (look ts x)) K d ts os
  | .un d op x, K => putK (vUn op (look ts x)) K d ts os
  | .conv d k x, K => putK (vConv k (look ts x)) K d ts os
  | .mkfn d f caps, K => putK (fnV f (vCaps (fun s => lookO s os) (caps.map (look ts)))) K d ts os
  | .mkslice d e sz bytes zero l c, K => mkslK (look ts l) (look ts c) K d e sz bytes zero ts os
  | .slice d sz x lo hi, K => (look ts x).toks = [] ∧ putK (vSlice sz (lo.map (look ts)) (hi.map (look ts)) (look ts x)) K d ts os
  | .slstr d x lo hi, K => putK (vSlstr (lo.map (look ts)) (hi.map (look ts)) (look ts x)) K d ts os
  | .faddr d off x, K => putK (vFaddr (fun s => lookO s os) off (look ts x)) K d ts os
  | .field d off n agg x, K => putK (vField off n agg (look ts x)) K d ts os
  | .iaddr d sz x i, K => putK (vIaddr (fun s => lookO s os) sz (look ts x) (look ts i)) K d ts os
  | .iaddrA d sz len x i, K => putK (vIaddrA (fun s => lookO s os) sz len (look ts x) (look ts i)) K d ts os
  | .sidx d x i, K => putK (vSidx (look ts x) (look ts i)) K d ts os
  | .aidx d sz len agg x i, K => putK (vAidx sz len agg (look ts x) (look ts i)) K d ts os
  | .extr d x i, K => putK (vExtr i (look ts x)) K d ts os
  | .call d f xs, K => callK P f (xs.map (look ts)) [] K d ts os ∨ callSF P f (xs.map (look ts)) xs K d ts os
  | .callv d x xs, K => callvK P (look ts x) (xs.map (look ts)) K d ts os ∨ ∃ f caps, look ts x = .k (.fnk f caps) ∧ callSK P f (xs.map (look ts)) caps K d ts os
  | .len d x, K => putK (vLen (fun s => lookO s os) (look ts x)) K d ts os
  | .lenS d x, K => putK (vLenS (look ts x)) K d ts os
  | .cap _ _, _ => False
  | .append d e sz bytes x y, K => appendK (look ts x) (srcV os sz (look ts y)) K d e sz bytes ts os
  | .minmax d isMax x ys, K => putK (vMinmax isMax (ys.map (look ts)) (look ts x)) K d ts os
section
variable {P : Program} {ts : TS} {os : OS}
theorem putK_on {r : Option (Prop × V)} {K : KK} {d : Nat} (h : putK r K d ts os) : putV r (fun v => onS K ((mkS ts os).put d v)) := by
  cases r with
  | none => exact h.elim
  | some pv =>
    refine ⟨h.1, ?_⟩
    show onS K ((mkS ts os).put d pv.2)
    rw [mkS_put]; exact onS_mk h.2
theorem pureK {op : AOp} {r : Option (Prop × V)} {K : KK} {d : Nat} (he : ∀ k : Nat → V → Prop, pureOp (mkS ts os) true op k = putV r (k d)) (h : putK r K d ts os) : pureOp (mkS ts os) true op (fun d v => onS K ((mkS ts os).put d v)) := by
  rw [he]; exact putK_on h
theorem vRow_toks {v : V} {r : List C} (h : vRow v = some r) : v.toks = [] ∧ v.pure = some r := by
  unfold vRow at h
  split at h
  · exact ⟨rfl, h⟩
  · exact ⟨rfl, h⟩
  · simp at h
theorem lits_on : ∀ {ps : List (Nat × AX)} {l : List (Nat × List C)}, vLits (ps.map fun p => (p.1, look ts p.2)) = some l → ∀ {k : St → List (Nat × List C) → Prop}, k (mkS ts os) l → withPures (mkS ts os) ps k
  | [], l, h, k, hk => by simp [vLits] at h; subst h; exact hk
  | (i, x) :: ps, l, h, k, hk => by
    simp only [List.map_cons, vLits] at h
    split at h
    · rename_i r l' hr hl
      cases h
      obtain ⟨ht, hp⟩ := vRow_toks hr
      simp only [withPures, withPure, V.strip, look_ev, ht, St.frzs, hp, true_and]
      exact lits_on hl hk
    · simp at h
theorem litsQ_on : ∀ {ps : List (Nat × AX)} {l : List (Nat × List C)}, vLits (ps.map fun p => (p.1, look ts p.2)) = some l → ∀ {k : List (Nat × List C) → Prop}, k l → pursP (mkS ts os) ps k
  | [], l, h, k, hk => by simp [vLits] at h; subst h; exact hk
  | (i, x) :: ps, l, h, k, hk => by
    simp only [List.map_cons, vLits] at h
    split at h
    · rename_i r l' hr hl
      cases h
      obtain ⟨ht, hp⟩ := vRow_toks hr
      simp only [pursP, V.strip, look_ev, hp, true_and]
      exact litsQ_on hl hk
    · simp at h
theorem scrub_mk (τ : Nat) : (mkS ts os).scrub τ = mkS (mapT (V.scrub τ) ts) (mapO (O.scrub τ) (delO τ os)) := by
  simp only [mkS, St.scrub, St.mk.injEq]
  constructor
  · funext s; rw [lookT_map _ rfl]
  · funext s; rw [lookO_map, lookO_del]; split <;> rfl
theorem src_on {e sz : Nat} {y : AX} {p : Prop} {ys : List (List C)} (h : srcV os sz (look ts y) = some (p, ys)) (hp : p) {k : List (List C) → Prop} (hk : k ys) : exOp.srcP (mkS ts os) e sz y k := by
  simp only [exOp.srcP, evg_ev, look_ev]
  generalize look ts y = v at h ⊢
  unfold srcV at h
  split at h
  · cases h; exact ⟨hp, hk⟩
  · rename_i τ
    show (match lookO τ os with | some (.arr _ sz' _ rows) => sz' = sz ∧ k rows | _ => False)
    cases ho : lookO τ os with
    | none => rw [ho] at h; simp [srcO] at h
    | some ob =>
      cases ob with
      | var => rw [ho] at h; simp [srcO] at h
      | arr e' sz' nl rows =>
        rw [ho] at h
        simp only [srcO, Option.some.injEq, Prod.mk.injEq] at h
        obtain ⟨rfl, rfl⟩ := h
        exact ⟨hp, hk⟩
  · simp at h
theorem frees_on : ∀ {k d n : Nat}, freesL d n ts os k → frees (mkS ts os) d n k
  | 0, _, _, _ => trivial
  | k + 1, d, n, h => by
    obtain ⟨⟨h1, h2⟩, h3⟩ := h
    simp only [freeB, Bool.and_eq_true] at h1
    exact ⟨⟨mkS_Free h1.1 h1.2, h2⟩, frees_on h3⟩
theorem adds_on : ∀ (obs : List O) (n : Nat) (ts : TS) (os : OS), (mkS ts os).adds n obs = mkS ts (addsL n obs os)
  | [], n, ts, os => rfl
  | ob :: l, n, ts, os => by
    simp only [St.adds, addsL, mkS_setO]
    exact adds_on l (n + 1) ts _
theorem call_on {f : FuncId} {xs : List AX} {cs : List C} {K : KK} {d : Option Nat} (h : callK P f (xs.map (look ts)) cs K d ts os) : callP P ((mkS ts os)) d f xs cs (onS K) := by
  obtain ⟨h1, r, h2, h3⟩ := h
  simp only [List.all_map, List.all_eq_true, Function.comp] at h1
  refine ⟨fun _ _ => rfl, fun x hx => ?_, (fun r' => r' = r), ?_, ?_⟩
  · simp only [V.strip, look_ev, lendL_eq]; exact h1 x hx
  · simp only [V.strip, look_ev, lendL_eq]
    rw [List.map_map, List.map_map] at h2; exact h2
  · rintro r' rfl
    split
    · rename_i hs
      rw [if_pos hs] at h3
      cases d with
      | none => exact onS_mk h3
      | some d => exact ⟨_, _, mkS_put ts os d r', h3⟩
    · rename_i hs
      rw [if_neg hs] at h3
      have ht : (xs.flatMap fun x => (x.ev (mkS ts os)).strip.1.toks) = [] := by
        refine List.flatMap_eq_nil_iff.2 fun x hx => ?_
        have := h3.1
        simp only [List.all_map, List.all_eq_true, Function.comp, List.isEmpty_iff] at this
        simp only [V.strip, look_ev]
        exact this x hx
      rw [ht]
      show retP (mkS ts os) d r' (onS K)
      cases d with
      | none => exact onS_mk h3.2
      | some d =>
        refine ⟨frees_on h3.2.1, ?_⟩
        rw [adds_on, mkS_put]
        exact onS_mk h3.2.2
theorem frzs_on {τ : Nat} (h2 : plainO (lookO τ os)) : (mkS ts os).frzs [τ] = mkS (frzT τ ts os (lookO τ os)) (frzO τ os (lookO τ os)) := by
  have e : (mkS ts os).o τ = lookO τ os := rfl
  have hf : (mkS ts os).frzs [τ] = (mkS ts os).frz τ := by
    simp only [St.frzs, e]
    unfold plainO at h2
    split
    · rename_i e' row ho
      rw [ho] at h2
      simp only [] at h2
      rw [h2]; rfl
    · rfl
  rw [hf, mkS_frz]
theorem callO_on {f : FuncId} {xs : List AX} {K : KK} {d : Option Nat} {τ : Nat} {r : V} (h1 : (xs.map (look ts)).all (fun v => (lendL os v).isPure) = true) (h2 : Spec P f ((xs.map (look ts)).map fun v => (lendL os v).norm) (fun r' => r' = r))
    (h3 : r.scalar = false) (h4 : (xs.map (look ts)).flatMap V.toks = [τ]) (h5 : plainO (lookO τ os)) (h : retK r K (frzT τ ts os (lookO τ os)) (frzO τ os (lookO τ os)) d) : callP P (mkS ts os) d f xs [] (onS K) := by
  simp only [List.all_map, List.all_eq_true, Function.comp] at h1
  refine ⟨fun _ _ => rfl, fun x hx => ?_, (fun r' => r' = r), .inl ?_, ?_⟩
  · simp only [V.strip, look_ev, lendL_eq]; exact h1 x hx
  · simp only [V.strip, look_ev, lendL_eq, List.map_nil, List.append_nil]
    rw [List.map_map] at h2; exact h2
  · rintro r' rfl
    rw [if_neg (by simp [h3])]
    have ht : (xs.flatMap fun x => (x.ev (mkS ts os)).strip.1.toks) = [τ] := by
      rw [← h4, List.flatMap_map]
      simp [V.strip, look_ev]
    rw [ht, frzs_on h5]
    show retP (mkS _ _) d r' (onS K)
    cases d with
    | none => exact onS_mk h
    | some d =>
      refine ⟨frees_on h.1, ?_⟩
      rw [adds_on, mkS_put]
      exact onS_mk h.2
theorem callQ_on {f : FuncId} {xs : List AX} {cs : List C} {K : KK} {d : Nat} (h : callQK P f (xs.map (look ts)) cs K d ts os) : callQ P (mkS ts os) d f xs cs (onS K) := by
  obtain ⟨h1, r, h2, h3, h4⟩ := h
  simp only [List.all_map, List.all_eq_true, Function.comp] at h1
  refine ⟨fun _ _ => rfl, fun x hx => ?_, r, ?_, ?_, by rw [mkS_put]; exact onS_mk h4⟩
  · simp only [V.strip, look_ev, lendL_eq]; exact h1 x hx
  · simp only [V.strip, look_ev, lendL_eq]
    rw [List.map_map] at h2; exact h2
  · rcases h3 with h3 | h3
    · exact .inl h3
    · refine .inr fun x hx => ?_
      simp only [List.all_map, List.all_eq_true, Function.comp, List.isEmpty_iff] at h3
      simp only [V.strip, look_ev]
      exact h3 x hx
theorem callS_on {f : FuncId} {xs : List AX} {caps : List Cap} {K : KK} {d : Option Nat} (h : callSK P f (xs.map (look ts)) caps K d ts os) : callS P (mkS ts os) d f xs caps (onS K) := by
  obtain ⟨T, A, dead, S, h1, h2, h3, h4, h5, h6⟩ := h
  have e : xs.map (fun x => x.ev (mkS ts os)) = xs.map (look ts) := List.map_congr_left fun x _ => look_ev ts os x
  refine ⟨T, A, dead, S, ?_, h2, h3, h4, ?_, h6⟩
  · rw [e]; exact h1
  · rw [e]; exact h5
theorem pure_hard {v : V} (h : (lendL os v).isPure = true) : v.hard = [] := by
  cases v with
  | k x => cases x with
    | own τ => rfl
    | c x => rfl
    | _ => simp [lendL, V.isPure] at h
  | agg => rfl
  | _ => simp [lendL, V.isPure] at h
theorem free_on {d : Nat} (h : freeB d ts os) : (mkS ts os).Free d := by
  simp only [freeB, Bool.and_eq_true] at h
  exact mkS_Free h.1 h.2
theorem exL_sound {op : AOp} {K : KK} (h : exL P ts os op K) : exOp P (mkS ts os) op (onS K) := by
  cases op
  case mov d x =>
    show onS K ((mkS ts os).put d (x.ev (mkS ts os)))
    rw [mkS_put, look_ev]; exact onS_mk h
  case nilL d e sz =>
    refine ⟨free_on h.1, ?_⟩
    rw [mkS_new]; exact onS_mk h.2
  case alloc d e zero =>
    refine ⟨free_on h.1, ?_⟩
    rw [mkS_new]; exact onS_mk h.2
  case box d e x =>
    simp only [exOp, evg_ev, look_ev]
    simp only [exL] at h
    generalize look ts x = v at h ⊢
    unfold boxK at h
    split at h
    · refine ⟨free_on h.1, ?_, by rw [mkS_new]; exact onS_mk h.2⟩
      simp [Abs.K.noRef]
    · refine ⟨free_on h.2.1, ?_, by rw [mkS_new]; exact onS_mk h.2.2⟩
      simpa using h.1
    · exact ⟨free_on h.2.1, h.1, by rw [mkS_new]; exact onS_mk h.2.2⟩
    · exact h.elim
  case bslice d e sz zero len ps =>
    simp only [exL] at h
    cases hl : vLits (ps.map fun p => (p.1, look ts p.2)) with
    | none => rw [hl] at h; exact h.elim
    | some l =>
      rw [hl] at h
      exact lits_on hl ⟨free_on h.1, h.2.1, h.2.2.1, by rw [mkS_new]; exact onS_mk h.2.2.2⟩
  case store n x y =>
    simp only [exL] at h
    simp only [exOp, evg_ev, look_ev]
    generalize hv : look ts x = v at h ⊢
    unfold storeK at h
    split at h
    · rename_i τ off
      show (match lookO τ os with | some (.var e row) => _ | _ => False)
      cases ho : lookO τ os with
      | none => rw [ho] at h; exact h.elim
      | some ob =>
        rw [ho] at h
        cases ob with
        | arr => exact h.elim
        | var e row =>
          simp only []
          cases hc : (look ts y).cells with
          | none => rw [hc] at h; exact h.elim
          | some ks =>
            rw [hc] at h
            exact ⟨h.1, h.2.1, by rw [mkS_setO]; exact onS_mk h.2.2⟩
    · rename_i τ i off
      cases hr : vRow (look ts y) with
      | none => rw [hr] at h; unfold stArrK at h; split at h <;> first | exact h.elim | simp_all
      | some r =>
        rw [hr] at h
        obtain ⟨ht, hp⟩ := vRow_toks hr
        simp only [withPure, V.strip, look_ev, ht, St.frzs, hp, true_and, hv]
        show (match lookO τ os with | some (.arr e sz nl rows) => _ | _ => False)
        cases ho : lookO τ os with
        | none => rw [ho] at h; exact h.elim
        | some ob =>
          rw [ho] at h
          cases ob with
          | var => exact h.elim
          | arr e sz nl rows => exact ⟨h.1, h.2.1, by rw [mkS_setO]; exact onS_mk h.2.2⟩
    · exact h.elim
  case mkslice d e sz bytes zero l c =>
    simp only [exL] at h
    simp only [exOp, evg_ev, look_ev]
    generalize look ts l = v at h ⊢
    generalize look ts c = u at h ⊢
    unfold mkslK at h
    split at h
    · obtain ⟨a1, a2, a3, a4, a5, a6, a7⟩ := h
      exact ⟨a1, a2, a3, a4, a5, free_on a6, by rw [mkS_new]; exact onS_mk a7⟩
    · exact h.elim
  case slice d sz x lo hi =>
    simp only [exL] at h
    simp only [exOp, V.strip, look_ev, h.1, St.frzs]
    refine pureK (fun k => ?_) h.2
    rw [pure_slice, look_ev]
    cases lo <;> cases hi <;> simp [look_ev]
  case append d e sz bytes x y =>
    simp only [exL] at h
    simp only [exOp, evg_ev, look_ev]
    generalize look ts x = v at h ⊢
    unfold appendK at h
    split at h
    · rename_i τ
      unfold appK at h
      split at h
      · rename_i ho hs
        obtain ⟨a0, rfl, rfl, a3, a4, a5⟩ := h
        refine src_on hs a0 ?_
        show (match lookO τ os with | some (.arr e' sz' nl xs) => _ | _ => False)
        rw [ho]
        refine ⟨rfl, rfl, a3, a4, ?_⟩
        rw [scrub_mk, mkS_setO, mkS_put]
        exact onS_mk a5
      · exact h.elim
    · unfold appNK at h
      split at h
      · rename_i hs
        exact src_on hs h.1 ⟨free_on h.2.1, h.2.2.1, h.2.2.2.1, by rw [mkS_new]; exact onS_mk h.2.2.2.2⟩
      · exact h.elim
    · exact h.elim
  case cap => exact h.elim
  case call d f xs =>
    simp only [exL] at h
    rcases h with h | h
    · left
      have hh : (xs.flatMap fun x => (x.ev (mkS ts os)).strip.1.hard) = [] := by
        refine List.flatMap_eq_nil_iff.2 fun x hx => ?_
        have := h.1
        simp only [List.all_map, List.all_eq_true, Function.comp] at this
        simp only [V.strip, look_ev]
        exact pure_hard (this x hx)
      rw [hh]
      exact call_on h
    · rcases h with h | ⟨_, ⟨τ, h1, h2, h⟩ | ⟨h1, τ, r, h2, h3, h4, h5, h⟩⟩
      · exact .inr (callS_on h)
      rotate_left
      · left
        have hh : (xs.flatMap fun x => (x.ev (mkS ts os)).strip.1.hard) = [] := by
          refine List.flatMap_eq_nil_iff.2 fun x hx => ?_
          simp only [List.all_map, List.all_eq_true, Function.comp] at h1
          simp only [V.strip, look_ev]
          exact pure_hard (h1 x hx)
        rw [hh]
        exact callO_on h1 h2 h3 h4 h5 h
      · left
        have hh : (xs.flatMap fun x => (x.ev (mkS ts os)).strip.1.hard) = [τ] := by
          rw [← h1, List.flatMap_map]
          simp [V.strip, look_ev]
        have hf : (mkS ts os).frzs [τ] = (mkS ts os).frz τ := by
          have e : (mkS ts os).o τ = lookO τ os := rfl
          simp only [St.frzs, e]
          unfold plainO at h2
          split
          · rename_i e' row ho
            rw [ho] at h2
            simp only [] at h2
            rw [h2]; rfl
          · rfl
        rw [hh, hf, mkS_frz]
        exact call_on h
  case callv d x xs =>
    simp only [exL] at h
    rcases h with h | ⟨f, caps, h1, h⟩
    · right
      unfold callvK at h
      split at h
      · rename_i f cs hx
        have hh : (xs.flatMap fun x => (x.ev (mkS ts os)).strip.1.hard) = [] := by
          refine List.flatMap_eq_nil_iff.2 fun x hx => ?_
          have := h.1
          simp only [List.all_map, List.all_eq_true, Function.comp] at this
          simp only [V.strip, look_ev]
          exact pure_hard (this x hx)
        have ht : (x.ev (mkS ts os)).strip.1.toks ++ (xs.flatMap fun x => (x.ev (mkS ts os)).strip.1.hard) = [] := by
          rw [hh]; simp [V.strip, look_ev, hx, V.toks, Abs.K.toks]
        rw [ht]
        simp only [St.frzs, V.strip, look_ev, hx]
        exact ⟨trivial, call_on h⟩
      · exact h.elim
    · exact .inl ⟨f, caps, by rw [look_ev]; exact h1, callS_on h⟩
  case pick =>
    rw [exOp_plain rfl]
    refine pureK (fun k => ?_) h
    rw [pure_pick]; simp only [look_ev]; try rfl
  case build d zero ps =>
    rw [exOp_plain rfl]
    refine pureK (fun k => ?_) h
    rw [pure_build]; simp only [look_ev]
  case load =>
    rw [exOp_plain rfl]
    refine pureK (fun k => ?_) h
    rw [pure_load]; simp only [look_ev]; try rfl
  case nilchk =>
    rw [exOp_plain rfl]
    refine pureK (fun k => ?_) h
    rw [pure_nilchk]; simp only [look_ev]; try rfl
  case bin =>
    rw [exOp_plain rfl]
    refine pureK (fun k => ?_) h
    rw [pure_bin]; simp only [look_ev]; try rfl
  case binB =>
    rw [exOp_plain rfl]
    refine pureK (fun k => ?_) h
    rw [pure_binB]; simp only [look_ev]; try rfl
  case eqAgg =>
    rw [exOp_plain rfl]
    refine pureK (fun k => ?_) h
    rw [pure_eqAgg]; simp only [look_ev]; try rfl
  case nilcmp =>
    rw [exOp_plain rfl]
    refine pureK (fun k => ?_) h
    rw [pure_nilcmp]; simp only [look_ev]; try rfl
  case un =>
    rw [exOp_plain rfl]
    refine pureK (fun k => ?_) h
    rw [pure_un]; simp only [look_ev]; try rfl
  case conv =>
    rw [exOp_plain rfl]
    refine pureK (fun k => ?_) h
    rw [pure_conv]; simp only [look_ev]; try rfl
  case mkfn =>
    rw [exOp_plain rfl]
    refine pureK (fun k => ?_) h
    rw [pure_mkfn]; simp only [look_ev]; try rfl
  case slstr d x lo hi =>
    rw [exOp_plain rfl]
    refine pureK (fun k => ?_) h
    rw [pure_slstr, look_ev]
    cases lo <;> cases hi <;> simp [look_ev]
  case faddr =>
    rw [exOp_plain rfl]
    refine pureK (fun k => ?_) h
    rw [pure_faddr]; simp only [look_ev]; try rfl
  case field =>
    rw [exOp_plain rfl]
    refine pureK (fun k => ?_) h
    rw [pure_field]; simp only [look_ev]; try rfl
  case iaddr =>
    rw [exOp_plain rfl]
    refine pureK (fun k => ?_) h
    rw [pure_iaddr]; simp only [look_ev]; try rfl
  case iaddrA =>
    rw [exOp_plain rfl]
    refine pureK (fun k => ?_) h
    rw [pure_iaddrA]; simp only [look_ev]; try rfl
  case sidx =>
    rw [exOp_plain rfl]
    refine pureK (fun k => ?_) h
    rw [pure_sidx]; simp only [look_ev]; try rfl
  case aidx =>
    rw [exOp_plain rfl]
    refine pureK (fun k => ?_) h
    rw [pure_aidx]; simp only [look_ev]; try rfl
  case extr =>
    rw [exOp_plain rfl]
    refine pureK (fun k => ?_) h
    rw [pure_extr]; simp only [look_ev]; try rfl
  case len =>
    rw [exOp_plain rfl]
    refine pureK (fun k => ?_) h
    rw [pure_len]; simp only [look_ev]; try rfl
  case lenS =>
    rw [exOp_plain rfl]
    refine pureK (fun k => ?_) h
    rw [pure_lenS]; simp only [look_ev]; try rfl
  case minmax =>
    rw [exOp_plain rfl]
    refine pureK (fun k => ?_) h
    rw [pure_minmax]; simp only [look_ev]; try rfl
def exLQ (P : Program) (ts : TS) (os : OS) : AOp → KK → Prop
  | .mov d x, K => K (insT d (look ts x) ts) os
  | .nilL d e sz, K => freeB d ts os ∧ K (insT d (.k (.own d)) ts) (insO d (.arr e sz (some true) []) os)
  | .pick d c a b, K => putK (vPick (look ts c) (look ts a) (look ts b)) K d ts os
  | .alloc d e zero, K => freeB d ts os ∧ K (insT d (.k (.ptr d 0)) ts) (insO d (.var e (zero.map .c)) os)
  | .box d e x, K => boxK (look ts x) K d e ts os
  | .build d zero ps, K => putK (rowV (vBuild (ps.map fun p => (p.1, p.2.1, look ts p.2.2)) (zero.map .c))) K d ts os
  | .bslice d e sz zero 0 ps, K => bsK (vLits (ps.map fun p => (p.1, look ts p.2))) K d e sz zero 0 ts os
  | .bslice d _ sz zero (len + 1) ps, K => bsQ (vLits (ps.map fun p => (p.1, look ts p.2))) K d sz zero (len + 1) ts os
  | .load d n agg x, K => putK (vLoad (fun s => lookO s os) n agg (look ts x)) K d ts os
  | .store n x y, K => storeK (look ts x) (look ts y) K n ts os
  | .nilchk d x, K => putK (nilchkO (fun s => lookO s os) (look ts x)) K d ts os
  | .bin d op x y, K => putK (vBin op (look ts x) (look ts y)) K d ts os
  | .binB d neg x y, K => putK (vBinB neg (look ts x) (look ts y)) K d ts os
  | .eqAgg d neg tys x y, K => putK (vEqAgg neg tys (look ts x) (look ts y)) K d ts os
  | .nilcmp d neg x, K => putK (vNil (fun s => lookO s os) neg (look ts x)) K d ts os
  | .un d op x, K => putK (vUn op (look ts x)) K d ts os
  | .conv d k x, K => putK (vConv k (look ts x)) K d ts os
  | .mkfn d f caps, K => putK (fnV f (vCaps (fun s => lookO s os) (caps.map (look ts)))) K d ts os
  | .mkslice d e sz bytes zero l c, K => mkslK (look ts l) (look ts c) K d e sz bytes zero ts os
  | .slice d sz x lo hi, K => (look ts x).toks = [] ∧ putK (vSlice sz (lo.map (look ts)) (hi.map (look ts)) (look ts x)) K d ts os
  | .slstr d x lo hi, K => putK (vSlstr (lo.map (look ts)) (hi.map (look ts)) (look ts x)) K d ts os
  | .faddr d off x, K => putK (vFaddr (fun s => lookO s os) off (look ts x)) K d ts os
  | .field d off n agg x, K => putK (vField off n agg (look ts x)) K d ts os
  | .iaddr d sz x i, K => putK (vIaddr (fun s => lookO s os) sz (look ts x) (look ts i)) K d ts os
  | .iaddrA d sz len x i, K => putK (vIaddrA (fun s => lookO s os) sz len (look ts x) (look ts i)) K d ts os
  | .sidx d x i, K => putK (vSidx (look ts x) (look ts i)) K d ts os
  | .aidx d sz len agg x i, K => putK (vAidx sz len agg (look ts x) (look ts i)) K d ts os
  | .extr d x i, K => putK (vExtr i (look ts x)) K d ts os
  | .call (some d) f xs, K => callQK P f (xs.map (look ts)) [] K d ts os
  | .call none f xs, K => callK P f (xs.map (look ts)) [] K none ts os ∨ callSF P f (xs.map (look ts)) xs K none ts os
  | .callv (some d) x xs, K => callvQK P (look ts x) (xs.map (look ts)) K d ts os
  | .callv none x xs, K => callvK P (look ts x) (xs.map (look ts)) K none ts os ∨ ∃ f caps, look ts x = .k (.fnk f caps) ∧ callSK P f (xs.map (look ts)) caps K none ts os
  | .len d x, K => putK (vLen (fun s => lookO s os) (look ts x)) K d ts os
  | .lenS d x, K => putK (vLenS (look ts x)) K d ts os
  | .cap _ _, _ => False
  | .append d e sz bytes x y, K => appendK (look ts x) (srcV os sz (look ts y)) K d e sz bytes ts os
  | .minmax d isMax x ys, K => putK (vMinmax isMax (ys.map (look ts)) (look ts x)) K d ts os
theorem exLQ_sound {op : AOp} {K : KK} (h : exLQ P ts os op K) : exOpQ P (mkS ts os) op (onS K) := by
  by_cases hs : op.special = true
  case neg =>
    have he := exOpQ_eq (P := P) (op := op) (by simpa using hs)
    rw [congrFun (congrFun he (mkS ts os)) (onS K)]
    refine exL_sound ?_
    cases op
    case bslice d e sz zero len ps => cases len with
      | zero => exact h
      | succ n => simp [AOp.special] at hs
    case call d f xs => cases d with
      | none => exact h
      | some d => simp [AOp.special] at hs
    case callv d x xs => cases d with
      | none => exact h
      | some d => simp [AOp.special] at hs
    case slice => simp [AOp.special] at hs
    all_goals exact h
  cases op
  case bslice d e sz zero len ps => cases len with
    | zero => simp [AOp.special] at hs
    | succ n =>
      simp only [exLQ] at h
      cases hl : vLits (ps.map fun p => (p.1, look ts p.2)) with
      | none => rw [hl] at h; exact h.elim
      | some l =>
        rw [hl] at h
        exact litsQ_on hl ⟨h.1, h.2.1, by rw [mkS_put]; exact onS_mk h.2.2⟩
  case call d f xs => cases d with
    | none => simp [AOp.special] at hs
    | some d => exact callQ_on h
  case callv d x xs => cases d with
    | none => simp [AOp.special] at hs
    | some d =>
      simp only [exLQ] at h
      unfold callvQK at h
      split at h
      · rename_i f cs hx
        simp only [exOpQ, V.strip, look_ev, hx]
        exact ⟨trivial, callQ_on h⟩
      · exact h.elim
  case slice d sz x lo hi =>
    simp only [exLQ] at h
    refine ⟨by simp only [V.strip, look_ev]; exact h.1, ?_⟩
    refine pureK (fun k => ?_) h.2
    rw [pure_slice, look_ev]
    cases lo <;> cases hi <;> simp [look_ev]
  all_goals simp [AOp.special] at hs
def condB (t : Bool) (A B : KK) (ts1 ts2 : TS) (os : OS) : Prop := match t with | true => A ts1 os | false => B ts2 os
theorem condB_iff (t : Bool) (A B : KK) (ts1 ts2 : TS) (os : OS) : condB t A B ts1 ts2 os = ((t = true → A ts1 os) ∧ (t = false → B ts2 os)) := by cases t <;> simp [condB]
def exK (P : Program) (op : AOp) (K : KK) : KK := fun ts os => exL P ts os op K
def exKQ (P : Program) (op : AOp) (K : KK) : KK := fun ts os => exLQ P ts os op K
def guardP (v : V) (want : Bool) (A B : KK) (tsY tsN ts : TS) (os : OS) : Prop :=
  match v, want with
  | .k (.c (.bool b)), true => condB b A B tsY tsN os
  | .k (.c (.bool b)), false => condB b B A tsN tsY os
  | .undef, _ => B ts os
  | _, _ => False
def putDL (d : Option Nat) (K : KK) (ts : TS) (os : OS) : Prop := match d with | some d => K (insT d .undef ts) os | none => K ts os
def wpL (P : Program) (i : AI) (K : KK) (ts : TS) (os : OS) : Prop :=
  match i.g with
  | none => exL P ts os i.op K
  | some (s, want) => guardP (lookT s ts) want (exK P i.op K) (putDL i.op.dst K) (insT s (.bool want) ts) (insT s (.bool !want) ts) ts os
def wpLQ (P : Program) (i : AI) (K : KK) (ts : TS) (os : OS) : Prop :=
  match i.g with
  | none => exLQ P ts os i.op K
  | some (s, want) => guardP (lookT s ts) want (exKQ P i.op K) (putDL i.op.dst K) (insT s (.bool want) ts) (insT s (.bool !want) ts) ts os
def wpLs (P : Program) : List AI → KK → KK
  | [], K, ts, os => K ts os
  | i :: l, K, ts, os => wpL P i (wpLs P l K) ts os
def wpLQs (P : Program) : List AI → KK → KK
  | [], K, ts, os => K ts os
  | i :: l, K, ts, os => wpLQ P i (wpLQs P l K) ts os
def wpLT (P : Program) : DT → KK → KK
  | .done, K, ts, os => K ts os
  | .fail, _, _, _ => False
  | .top, _, _, _ => True
  | .one i t, K, ts, os => wpLQ P i (wpLT P t K) ts os
  | .alt a b, K, ts, os => wpLT P a K ts os ∧ wpLT P b K ts os
theorem putDL_on {d : Option Nat} {K : KK} (h : putDL d K ts os) : onS K (putD (mkS ts os) d .undef) := by
  cases d with
  | none => exact onS_mk h
  | some d => exact ⟨_, _, mkS_put ts os d .undef, h⟩
theorem mkS_same {s : Nat} {v : V} (h : lookT s ts = v) : mkS (insT s v ts) os = mkS ts os := by
  simp only [mkS, St.mk.injEq, and_true]
  funext k
  rw [lookT_ins]
  by_cases hk : k = s
  · subst hk; simp [h]
  · simp [hk]
theorem wpL_on {i : AI} {K : KK} (h : wpL P i K ts os) : wpAI P i (onS K) (mkS ts os) := by
  obtain ⟨g, op⟩ := i
  cases g with
  | none => exact exL_sound h
  | some sw =>
    obtain ⟨s, want⟩ := sw
    simp only [wpL] at h
    simp only [wpAI]
    have e : (mkS ts os).t s = lookT s ts := rfl
    rw [e]
    generalize hv : lookT s ts = v at h
    unfold guardP at h
    split at h
    · rename_i b
      rw [condB_iff] at h
      refine ⟨fun hq => ?_, fun hq => ?_⟩
      · have hb : b = true := by simpa using hq
        subst hb
        have := exL_sound (h.1 rfl)
        rw [mkS_same hv] at this; exact this
      · have hb : b = false := by simpa using hq
        subst hb
        have := putDL_on (h.2 rfl)
        rw [Bool.not_true, mkS_same hv] at this; exact this
    · rename_i b
      rw [condB_iff] at h
      refine ⟨fun hq => ?_, fun hq => ?_⟩
      · have hb : b = false := by simpa using hq
        subst hb
        have := exL_sound (h.2 rfl)
        rw [mkS_same hv] at this; exact this
      · have hb : b = true := by simpa using hq
        subst hb
        have := putDL_on (h.1 rfl)
        rw [Bool.not_false, mkS_same hv] at this; exact this
    · exact putDL_on h
    · exact h.elim
theorem wpLQ_on {i : AI} {K : KK} (h : wpLQ P i K ts os) : wpQ P i (onS K) (mkS ts os) := by
  obtain ⟨g, op⟩ := i
  cases g with
  | none => exact exLQ_sound h
  | some sw =>
    obtain ⟨s, want⟩ := sw
    simp only [wpLQ] at h
    simp only [wpQ]
    have e : (mkS ts os).t s = lookT s ts := rfl
    rw [e]
    generalize hv : lookT s ts = v at h
    unfold guardP at h
    split at h
    · rename_i b
      rw [condB_iff] at h
      refine ⟨fun hq => ?_, fun hq => ?_⟩
      · have hb : b = true := by simpa using hq
        subst hb
        have := exLQ_sound (h.1 rfl)
        rw [mkS_same hv] at this; exact this
      · have hb : b = false := by simpa using hq
        subst hb
        have := putDL_on (h.2 rfl)
        rw [Bool.not_true, mkS_same hv] at this; exact this
    · rename_i b
      rw [condB_iff] at h
      refine ⟨fun hq => ?_, fun hq => ?_⟩
      · have hb : b = false := by simpa using hq
        subst hb
        have := exLQ_sound (h.2 rfl)
        rw [mkS_same hv] at this; exact this
      · have hb : b = true := by simpa using hq
        subst hb
        have := putDL_on (h.1 rfl)
        rw [Bool.not_false, mkS_same hv] at this; exact this
    · exact putDL_on h
    · exact h.elim
theorem onS_elim {K : KK} {F : St → Prop} (h : ∀ ts os, K ts os → F (mkS ts os)) : ∀ σ, onS K σ → F σ := by
  rintro σ ⟨ts, os, rfl, hk⟩
  exact h ts os hk
theorem wpLs_on : ∀ {l : List AI} {K : KK} {ts : TS} {os : OS}, wpLs P l K ts os → wpAIs P l (onS K) (mkS ts os)
  | [], K, ts, os, h => onS_mk h
  | i :: l, K, ts, os, h => wpAI_mono (onS_elim fun _ _ h => wpLs_on h) (wpL_on h)
theorem wpLQs_on : ∀ {l : List AI} {K : KK} {ts : TS} {os : OS}, wpLQs P l K ts os → wpQs P l (onS K) (mkS ts os)
  | [], K, ts, os, h => onS_mk h
  | i :: l, K, ts, os, h => wpQ_mono (onS_elim fun _ _ h => wpLQs_on h) (wpLQ_on h)
theorem wpLT_on : ∀ {t : DT} {K : KK} {ts : TS} {os : OS}, wpLT P t K ts os → wpT P t (onS K) (mkS ts os)
  | .done, K, ts, os, h => onS_mk h
  | .fail, K, ts, os, h => h
  | .top, K, ts, os, h => trivial
  | .one i t, K, ts, os, h => wpQ_mono (onS_elim fun _ _ h => wpLT_on (t := t) h) (wpLQ_on h)
  | .alt a b, K, ts, os, h => ⟨wpLT_on (t := a) h.1, wpLT_on (t := b) h.2⟩
def AE.thenL (next : KK) (Q : AE → KK) : AE → KK
  | .normal => next
  | .exit i => Q (.exit i)
  | .ret => Q .ret
def AE.inBlockL (id : Nat) (Q : AE → KK) : AE → KK
  | .normal => Q .normal
  | .exit i => if i = id then Q .normal else Q (.exit i)
  | .ret => Q .ret
def condK (v : V) (A B : KK) (ts1 ts2 : TS) (os : OS) : Prop :=
  match v with
  | .k (.c (.bool t)) => condB t A B ts1 ts2 os
  | _ => False
def loopK (step : KK → KK) (L M : List Nat) (ts : TS) (os : OS) : Prop :=
  ∃ I : Nat → KK, (∃ n, I n (keepT ts L) (keepO os M)) ∧ ∀ n ts os, I n ts os → step (fun ts' os' => ∃ m, m < n ∧ I m (keepT ts' L) (keepO os' M)) ts os
def learn (ts : TS) (b : Bool) : AX → TS
  | .t s => insT s (.bool b) ts
  | .v _ => ts
theorem learn_same {b : Bool} {c : AX} (h : look ts c = .bool b) : mkS (learn ts b c) os = mkS ts os := by
  cases c with
  | t s => exact mkS_same h
  | v v => rfl
def noAL (A : Nat) (ts : TS) (os : OS) : Prop := (ts.all (fun p => p.2.noRef A) && os.all (fun p => p.1 != A && p.2.noRef A)) = true
def ownK (ob : Option O) (K : KK) (τ A e sz : Nat) (ts : TS) (os : OS) : Prop :=
  match ob with
  | some (.var e' [.c (.list _ (some true) [])]) => noAL A ts os ∧ K ts (insO A (.arr e sz (some true) []) (insO τ (.var e' [.own A]) os))
  | _ => False
theorem noAL_on {A : Nat} (h : noAL A ts os) : (mkS ts os).noA A := by
  unfold noAL at h
  simp only [Bool.and_eq_true, List.all_eq_true, bne_iff_ne, ne_eq] at h
  obtain ⟨h1, h2⟩ := h
  have k1 : ∀ (l : OS), (∀ p, p ∈ l → ¬ p.1 = A ∧ p.2.noRef A = true) → lookO A l = none ∧ ∀ s ob, lookO s l = some ob → ob.noRef A = true := by
    intro l
    induction l with
    | nil => intro _; exact ⟨rfl, fun s ob h => by simp [lookO] at h⟩
    | cons p l ih =>
      intro h
      obtain ⟨i1, i2⟩ := ih (fun q hq => h q (by simp [hq]))
      obtain ⟨p1, p2⟩ := h p (by simp)
      obtain ⟨k, o⟩ := p
      refine ⟨by simp only [lookO, if_neg p1]; exact i1, fun s ob hs => ?_⟩
      simp only [lookO] at hs
      split at hs
      · cases hs; exact p2
      · exact i2 s ob hs
  have k2 : ∀ (l : TS), (∀ p, p ∈ l → p.2.noRef A = true) → ∀ s, (lookT s l).noRef A = true := by
    intro l
    induction l with
    | nil => intro _ s; rfl
    | cons p l ih =>
      intro h s
      obtain ⟨k, v⟩ := p
      simp only [lookT]
      split
      · exact h (k, v) (by simp)
      · exact ih (fun q hq => h q (by simp [hq])) s
  exact ⟨(k1 os h2).1, k2 ts h1, (k1 os h2).2⟩
theorem mkS_ownNil {τ A e sz : Nat} {e' : TypeId} : (mkS ts os).ownNil τ A e sz e' = mkS ts (insO A (.arr e sz (some true) []) (insO τ (.var e' [.own A]) os)) := by
  simp only [St.ownNil, mkS, St.mk.injEq, true_and]
  funext s
  rw [lookO_ins, lookO_ins]
def swO (x y : Nat) : OS → OS
  | [] => []
  | (k, ob) :: l => (sw x y k, ob.sw x y) :: swO x y l
theorem lookO_swO (x y s : Nat) : ∀ (os : OS), lookO s (swO x y os) = (lookO (sw x y s) os).map (O.sw x y)
  | [] => rfl
  | (k, ob) :: l => by
    simp only [swO, lookO]
    by_cases h : k = sw x y s
    · rw [if_pos h, if_pos (by rw [h, sw_sw])]; rfl
    · rw [if_neg h, if_neg (by rintro rfl; rw [sw_sw] at h; exact h rfl), lookO_swO x y s l]
theorem mkS_sw (x y : Nat) : (mkS ts os).sw x y = mkS (mapT (V.sw x y) ts) (swO x y os) := by
  simp only [St.sw, mkS, St.mk.injEq]
  exact ⟨by funext s; rw [lookT_map _ rfl], by funext s; rw [lookO_swO]⟩
def frzL : List Nat → KK → KK
  | [], K => K
  | τ :: l, K => fun ts os => frzL l K (frzT τ ts os (lookO τ os)) (frzO τ os (lookO τ os))
def wpLPs (P : Program) : List (List AI × List Nat) → KK → KK
  | [], K => K
  | p :: r, K => wpLs P p.1 (frzL p.2 (wpLPs P r K))
def awl (P : Program) : AQ → (AE → KK) → KK
  | .skip, Q, ts, os => Q .normal ts os
  | .region l, Q, ts, os => wpLs P l (Q .normal) ts os
  | .draw l _, Q, ts, os => wpLQs P l (Q .normal) ts os
  | .tree l p, Q, ts, os => wpLT P (treeOf l p) (Q .normal) ts os
  | .seq a b, Q, ts, os => awl P a (AE.thenL (awl P b Q) Q) ts os
  | .cond c a b, Q, ts, os => condK (look ts c) (awl P a Q) (awl P b Q) (learn ts true c) (learn ts false c) os
  | .block id a, Q, ts, os => awl P a (AE.inBlockL id Q) ts os
  | .loop L M a, Q, ts, os => loopK (fun next => awl P a (AE.thenL next Q)) L M ts os
  | .exit id, Q, ts, os => Q (.exit id) ts os
  | .ret, Q, ts, os => Q .ret ts os
  | .keep L M a, Q, ts, os => awl P a Q (keepT ts L) (keepO os M)
  | .own τ A e sz a, Q, ts, os => ownK (lookO τ os) (awl P a Q) τ A e sz ts os
  | .swap x y a, Q, ts, os => awl P a Q (mapT (V.sw x y) ts) (swO x y os)
  | .frz τ a, Q, ts, os => awl P a Q (frzT τ ts os (lookO τ os)) (frzO τ os (lookO τ os))
  | .regf l1 τs l2, Q, ts, os => wpLs P l1 (frzL τs (wpLs P l2 (Q .normal))) ts os
  | .regs ps, Q, ts, os => wpLPs P ps (Q .normal) ts os
theorem wpPs_mono : ∀ {ps : List (List AI × List Nat)} {K K' : St → Prop} {σ : St}, (∀ σ, K σ → K' σ) → wpPs P ps K σ → wpPs P ps K' σ
  | [], _, _, σ, hk, h => hk σ h
  | _ :: _, _, _, _, hk, h => wpAIs_mono (fun _ h => wpPs_mono hk h) h
theorem awq_mono (c : AQ) : ∀ {Q Q' : AE → St → Prop} {σ : St}, (∀ e σ, Q e σ → Q' e σ) → awq P c Q σ → awq P c Q' σ := by
  induction c with
  | skip => intro Q Q' σ hq h; exact hq _ σ h
  | region l => intro Q Q' σ hq h; exact wpAIs_mono (hq .normal) h
  | draw l p => intro Q Q' σ hq h; exact wpQs_mono (hq .normal) h
  | tree l p => intro Q Q' σ hq h; exact wpT_mono (hq .normal) h
  | seq a b iha ihb =>
    intro Q Q' σ hq h
    exact iha (then_mono (fun σ h => ihb hq h) hq) h
  | cond c a b iha ihb =>
    intro Q Q' σ hq h
    simp only [awq, evg_ev] at h ⊢
    generalize AX.ev σ c = v at h ⊢
    split at h
    · exact ⟨fun ht => iha hq (h.1 ht), fun ht => ihb hq (h.2 ht)⟩
    · exact h.elim
  | block i a ih =>
    intro Q Q' σ hq h
    exact ih (inBlock_mono hq) h
  | loop L M a ih =>
    intro Q Q' σ hq h
    obtain ⟨I, h0, h1⟩ := h
    exact ⟨I, h0, fun n σ' hI => ih (then_mono (fun σ h => h) hq) (h1 n σ' hI)⟩
  | exit i => intro Q Q' σ hq h; exact hq _ σ h
  | ret => intro Q Q' σ hq h; exact hq _ σ h
  | keep L M a ih => intro Q Q' σ hq h; exact ih hq h
  | own τ A e sz a ih =>
    intro Q Q' σ hq h
    obtain ⟨e', z, h1, h2, h3⟩ := h
    exact ⟨e', z, h1, h2, ih hq h3⟩
  | swap x y a ih => intro Q Q' σ hq h; exact ih hq h
  | frz τ a ih => intro Q Q' σ hq h; exact ih hq h
  | regs ps => intro Q Q' σ hq h; exact wpPs_mono (hq .normal) h
  | regf l1 τs l2 => intro Q Q' σ hq h; exact wpAIs_mono (fun σ h => wpAIs_mono (hq .normal) h) h
theorem frzL_on : ∀ (τs : List Nat) {K : KK} {ts : TS} {os : OS}, frzL τs K ts os → ∃ ts' os', St.frzA τs (mkS ts os) = mkS ts' os' ∧ K ts' os'
  | [], _, ts, os, h => ⟨ts, os, rfl, h⟩
  | τ :: l, _, _, _, h => by
    obtain ⟨ts', os', e, h'⟩ := frzL_on l h
    exact ⟨ts', os', by rw [St.frzA, mkS_frz]; exact e, h'⟩
theorem wpLPs_on : ∀ {ps : List (List AI × List Nat)} {K : KK} {ts : TS} {os : OS}, wpLPs P ps K ts os → wpPs P ps (onS K) (mkS ts os)
  | [], _, _, _, h => onS_mk h
  | p :: r, _, _, _, h => by
    refine wpAIs_mono (onS_elim fun ts os h => ?_) (wpLs_on h)
    obtain ⟨ts', os', e, h'⟩ := frzL_on p.2 h
    rw [e]
    exact wpLPs_on h'
theorem awl_on (c : AQ) : ∀ {Q : AE → KK} {ts : TS} {os : OS}, awl P c Q ts os → awq P c (fun e => onS (Q e)) (mkS ts os) := by
  induction c with
  | skip => intro Q ts os h; exact onS_mk h
  | region l => intro Q ts os h; exact wpLs_on h
  | draw l p => intro Q ts os h; exact wpLQs_on h
  | tree l p => intro Q ts os h; exact wpLT_on h
  | seq a b iha ihb =>
    intro Q ts os h
    refine awq_mono a (fun e σ h => ?_) (iha h)
    cases e with
    | normal => exact onS_elim (fun _ _ h => ihb h) σ h
    | exit i => exact h
    | ret => exact h
  | cond c a b iha ihb =>
    intro Q ts os h
    simp only [awl] at h
    simp only [awq, evg_ev, look_ev]
    generalize hv : look ts c = v at h ⊢
    unfold condK at h
    split at h
    · rename_i t
      rw [condB_iff] at h
      refine ⟨fun ht => ?_, fun ht => ?_⟩
      · have := iha (h.1 ht)
        rw [learn_same (by rw [hv, ht])] at this; exact this
      · have := ihb (h.2 ht)
        rw [learn_same (by rw [hv, ht])] at this; exact this
    · exact h.elim
  | block i a ih =>
    intro Q ts os h
    refine awq_mono a (fun e σ h => ?_) (ih h)
    cases e with
    | normal => exact h
    | exit j =>
      simp only [AE.inBlockL] at h
      simp only [AE.inBlock]
      split
      · rename_i hi; rw [if_pos hi] at h; exact h
      · rename_i hi; rw [if_neg hi] at h; exact h
    | ret => exact h
  | loop L M a ih =>
    intro Q ts os h
    obtain ⟨I, ⟨n, h0⟩, h1⟩ := h
    refine ⟨fun n => onS (I n), ⟨n, by rw [mkS_keep]; exact onS_mk h0⟩, fun n => onS_elim fun ts os hI => ?_⟩
    refine awq_mono a (fun e σ h => ?_) (ih (h1 n ts os hI))
    cases e with
    | normal =>
      obtain ⟨ts', os', rfl, m, hm, hI'⟩ := h
      exact ⟨m, hm, by rw [mkS_keep]; exact onS_mk hI'⟩
    | exit j => exact h
    | ret => exact h
  | exit i => intro Q ts os h; exact onS_mk h
  | ret => intro Q ts os h; exact onS_mk h
  | keep L M a ih =>
    intro Q ts os h
    simp only [awq, mkS_keep]
    exact ih h
  | own τ A e sz a ih =>
    intro Q ts os h
    simp only [awl] at h
    have e0 : (mkS ts os).o τ = lookO τ os := rfl
    generalize hob : lookO τ os = ob at h
    unfold ownK at h
    split at h
    · exact ⟨_, _, by rw [e0, hob], noAL_on h.1, by rw [mkS_ownNil]; exact ih h.2⟩
    · exact h.elim
  | swap x y a ih =>
    intro Q ts os h
    simp only [awq, mkS_sw]
    exact ih h
  | frz τ a ih =>
    intro Q ts os h
    simp only [awq, mkS_frz]
    exact ih h
  | regs ps => intro Q ts os h; exact wpLPs_on h
  | regf l1 τs l2 =>
    intro Q ts os h
    refine wpAIs_mono (onS_elim fun ts os h => ?_) (wpLs_on h)
    obtain ⟨ts', os', e, h'⟩ := frzL_on τs h
    rw [e]
    exact wpLs_on h'
def Next {X : Type} (st : X → TS) (ob : X → OS) (R : X → Prop) (m : X → Nat) (L M : List Nat) (n : Nat) : KK := fun ts os => ∃ y, keepT ts L = st y ∧ keepO os M = ob y ∧ R y ∧ m y < n
theorem Next.intro {X : Type} {st : X → TS} {ob : X → OS} {R : X → Prop} {m : X → Nat} {L M : List Nat} {n : Nat} (y : X) (h1 : keepT ts L = st y) (h2 : keepO os M = ob y) (hR : R y) (hm : m y < n) : Next st ob R m L M n ts os := ⟨y, h1, h2, hR, hm⟩
theorem awl_loop {X : Type} {L M : List Nat} {a : AQ} {Q : AE → KK} (st : X → TS) (ob : X → OS) (R : X → Prop) (m : X → Nat) (x0 : X) (h1 : keepT ts L = st x0) (h2 : keepO os M = ob x0) (hR : R x0)
    (hs : ∀ x, R x → awl P a (AE.thenL (Next st ob R m L M (m x)) Q) (st x) (ob x)) : awl P (.loop L M a) Q ts os := by
  refine ⟨fun n ts os => ∃ x, ts = st x ∧ os = ob x ∧ R x ∧ n = m x, ⟨m x0, x0, h1, h2, hR, rfl⟩, ?_⟩
  rintro n ts os ⟨x, rfl, rfl, hx, rfl⟩
  have e : Next st ob R m L M (m x) = (fun ts' os' => ∃ k, k < m x ∧ ∃ y, keepT ts' L = st y ∧ keepO os' M = ob y ∧ R y ∧ k = m y) := by
    funext ts' os'
    refine propext ⟨?_, ?_⟩
    · rintro ⟨y, a1, a2, a3, a4⟩; exact ⟨m y, a4, y, a1, a2, a3, rfl⟩
    · rintro ⟨k, a1, y, a2, a3, a4, rfl⟩; exact ⟨y, a2, a3, a4, a1⟩
  have := hs x hx
  rw [e] at this
  exact this
def resCell (ob : Option O) (off n : Nat) (agg : Bool) : Option (Prop × V) :=
  match ob with
  | some (.var _ row) => some (off + n ≤ row.length ∧ 0 < n, ofRow agg ((row.drop off).take n))
  | _ => none
def resX (ts : TS) (os : OS) : RX → Option (Prop × V)
  | .t s => some (True, lookT s ts)
  | .cell a n agg => match lookT a ts with
    | .k (.ptr τ off) => resCell (lookO τ os) off n agg
    | _ => none
def resL (ts : TS) (os : OS) : List RX → Option (Prop × List V)
  | [] => some (True, [])
  | x :: l => match resX ts os x, resL ts os l with
    | some (p, v), some (q, vs) => some (p ∧ q, v :: vs)
    | _, _ => none
def endV (v : V) (os : OS) (S : V → Prop) : Prop := (v.owns (fun s => lookO s os)).Nodup ∧ S (v.toNew (fun s => lookO s os))
def endL (r : Option (Prop × List V)) (os : OS) (S : V → Prop) : Prop :=
  match r with
  | some (p, vs) => p ∧ endV (one vs) os S
  | none => False
def endK (rs : List RX) (S : V → Prop) : AE → KK
  | .exit _, _, _ => False
  | _, ts, os => endL (resL (mapT V.nrm ts) (mapO O.nrm os) rs) (mapO O.nrm os) S
theorem resL_on : ∀ {rs : List RX} {p : Prop} {vs : List V} {k : List V → Prop}, resL ts os rs = some (p, vs) → p → k vs → resP (mkS ts os) rs k
  | [], p, vs, k, h, hp, hk => by simp [resL] at h; obtain ⟨_, rfl⟩ := h; exact hk
  | x :: l, p, vs, k, h, hp, hk => by
    simp only [resL] at h
    split at h
    · rename_i q v q' vs' h1 h2
      simp only [Option.some.injEq, Prod.mk.injEq] at h
      obtain ⟨rfl, rfl⟩ := h
      cases x with
      | t s =>
        simp only [resX, Option.some.injEq, Prod.mk.injEq] at h1
        obtain ⟨_, rfl⟩ := h1
        exact ⟨rfl, resL_on h2 hp.2 hk⟩
      | cell a n agg =>
        simp only [resX] at h1
        refine ⟨rfl, ?_⟩
        show (match (lookT a ts) with | .k (.ptr τ off) => _ | _ => False)
        split at h1
        · rename_i τ off ha
          show (match lookO τ os with | some (.var _ row) => _ | _ => False)
          unfold resCell at h1
          split at h1
          · rename_i ho
            simp only [Option.some.injEq, Prod.mk.injEq] at h1
            obtain ⟨rfl, rfl⟩ := h1
            exact ⟨hp.1.1, hp.1.2, resL_on h2 hp.2 hk⟩
          · simp at h1
        · simp at h1
    · simp at h
theorem end_on {rs : List RX} {S : V → Prop} {e : AE} (h : endK rs S e ts os) : endQ rs S e (mkS ts os) := by
  have key : endL (resL (mapT V.nrm ts) (mapO O.nrm os) rs) (mapO O.nrm os) S → retQ rs S (mkS ts os).nrm := by
    intro h
    rw [mkS_nrm]
    cases hr : resL (mapT V.nrm ts) (mapO O.nrm os) rs with
    | none => rw [hr] at h; exact h.elim
    | some pv =>
      obtain ⟨p, vs⟩ := pv
      rw [hr] at h
      exact resL_on hr h.1 h.2
  cases e with
  | normal => exact key h
  | exit i => exact h.elim
  | ret => exact key h
def endSL (r : Option (Prop × List V)) (args : List V) (o : Nat → Option O) (T : List Nat) (anchors : List (Nat × Nat)) (S : V → (Nat → Option O) → Prop) (ts : TS) (os : OS) : Prop :=
  match r with
  | some (p, vs) => p ∧ S (one vs) (tabIn T fun s => lookO s os) ∧ (one vs).within T = true ∧ (∀ τ, τ ∈ T → ∀ ob, lookO τ os = some ob → ob.within T = true) ∧
      ∀ p, p ∈ anchors → lookT p.1 ts = .k (.ptr p.2 0) ∧ args[p.1]? = some (.k (.ptr p.2 0)) ∧ likeVar (o p.2) (lookO p.2 os) = true ∧ p.2 ∈ T
  | none => False
def endSK (rs : List RX) (args : List V) (o : Nat → Option O) (T : List Nat) (anchors : List (Nat × Nat)) (S : V → (Nat → Option O) → Prop) : AE → KK
  | .exit _, _, _ => False
  | _, ts, os => endSL (resL (mapT V.nrm ts) (mapO O.nrm os) rs) args o T anchors S (mapT V.nrm ts) (mapO O.nrm os)
theorem endS_on {rs : List RX} {args : List V} {o : Nat → Option O} {T : List Nat} {anchors : List (Nat × Nat)} {S : V → (Nat → Option O) → Prop} {e : AE} (h : endSK rs args o T anchors S e ts os) : endS rs args o T anchors S e (mkS ts os) := by
  have key : endSL (resL (mapT V.nrm ts) (mapO O.nrm os) rs) args o T anchors S (mapT V.nrm ts) (mapO O.nrm os) → retS rs args o T anchors S (mkS ts os).nrm := by
    intro h
    rw [mkS_nrm]
    cases hr : resL (mapT V.nrm ts) (mapO O.nrm os) rs with
    | none => rw [hr] at h; exact h.elim
    | some pv =>
      obtain ⟨p, vs⟩ := pv
      rw [hr] at h
      exact resL_on hr h.1 h.2
  cases e with
  | normal => exact key h
  | exit i => exact h.elim
  | ret => exact key h
def tabL (T : List Nat) (L : OS) : Nat → Option O := tabIn T fun s => lookO s L
theorem SpecS.of_awl {f : FuncId} {n : Nat} {c : AQ} {rs : List RX} {args : List V} {L : OS} {T : List Nat} {anchors : List (Nat × Nat)} {S : V → (Nat → Option O) → Prop} (hc : cFunc P f = some ⟨n, c.erase, rs⟩) (hok : c.ok = true) (hlen : args.length ≤ n)
    (hav : c.erase.avoids (fun s => anchors.any fun p => p.1 == s) = true) (hL : ∀ p, p ∈ L → p.1 ∈ T) (h : awl P c (endSK rs args (tabL T L) T anchors S) (initT 0 args) L) : SpecS P f args (tabL T L) (anchors.map (·.2)) S := by
  refine SpecS.of_awq (T := T) hc hok hlen hav ?_
  have e : (⟨fun s => args.getD s .any, tabL T L⟩ : St) = mkS (initT 0 args) L := by
    have e2 : tabL T L = fun s => lookO s L := by
      funext s
      unfold tabL tabIn
      split
      · rfl
      · rename_i hs
        symm
        have : ∀ l : OS, (∀ p, p ∈ l → p.1 ∈ T) → lookO s l = none := by
          intro l
          induction l with
          | nil => intro _; rfl
          | cons p l ih =>
            intro h
            have hp := h p (by simp)
            have hne : ¬ p.1 = s := by rintro rfl; exact hs (by simpa using hp)
            simp only [lookO, if_neg hne]
            exact ih (fun q hq => h q (by simp [hq]))
        exact this L hL
    rw [e2]; exact init_mkS args L
  rw [e]
  exact awq_mono c (fun e => onS_elim fun _ _ h => endS_on h) (awl_on c h)
theorem call_f {f : FuncId} {xs : List AX} {vs : List V} {K : KK} {d : Option Nat} {X : Prop} (τ : Nat) (h0 : vs = xs.map (look ts)) (h1 : vs.flatMap V.hard = [τ]) (h2 : plainO (lookO τ os))
    (hk : callK P f (xs.map (look (frzT τ ts os (lookO τ os)))) [] K d (frzT τ ts os (lookO τ os)) (frzO τ os (lookO τ os)) ∨ False) : X ∨ callSF P f vs xs K d ts os :=
  .inr (.inr ⟨h0, .inl ⟨τ, by rw [← h0]; exact h1, h2, hk.elim id False.elim⟩⟩)
theorem call_o {f : FuncId} {xs : List AX} {vs : List V} {K : KK} {d : Option Nat} {X : Prop} {args : List V} {r : V} (τ : Nat) (h0 : vs = xs.map (look ts)) (hs : Spec P f args (fun r' => r' = r)) (hp : vs.all (fun v => (lendL os v).isPure) = true)
    (ha : vs.map (fun v => (lendL os v).norm) = args) (h4 : vs.flatMap V.toks = [τ]) (h5 : plainO (lookO τ os)) (hr : r.scalar = false) (hk : retK r K (frzT τ ts os (lookO τ os)) (frzO τ os (lookO τ os)) d) : X ∨ callSF P f vs xs K d ts os := by
  subst h0
  exact .inr (.inr ⟨rfl, .inr ⟨hp, τ, r, by rw [ha]; exact hs, hr, h4, h5, hk⟩⟩)
theorem Spec.of_awl {f : FuncId} {n : Nat} {c : AQ} {rs : List RX} {args : List V} {S : V → Prop} (hc : cFunc P f = some ⟨n, c.erase, rs⟩) (hok : c.ok = true) (hlen : args.length ≤ n) (h : awl P c (endK rs S) (initT 0 args) []) : Spec P f args S := by
  refine Spec.of_awq hc hok hlen ?_
  have e : St.init args = mkS (initT 0 args) [] := init_mkS args []
  rw [e]
  exact awq_mono c (fun e => onS_elim fun _ _ h => end_on h) (awl_on c h)
theorem Spec.of_awlS {f : FuncId} {n : Nat} {c : AQ} {rs : List RX} {args : List V} {X : V} (hc : cFunc P f = some ⟨n, c.erase, rs⟩) (hok : c.ok = true) (hlen : args.length ≤ n) (h : ∀ S : V → Prop, S X → awl P c (endK rs S) (initT 0 args) []) : Spec P f args (fun r => r = X) :=
  Spec.of_awl hc hok hlen (h (fun r => r = X) rfl)
theorem fin {S : V → Prop} {X v : V} (h : S X) (e : v = X) : S v := e ▸ h
theorem callable_of {f : FuncId} {x : AF} (hc : cFunc P f = some x) : Callable P f := by
  unfold cFunc at hc
  simp only [Option.bind_eq_bind, Option.bind_eq_some_iff] at hc
  obtain ⟨fn, hf, c, hb, ac', hcc, rs', hr, hc⟩ := hc
  split at hc
  · simp at hc
  · rename_i hn
    exact ⟨fn, hf, by simp [hb], by simpa using hn⟩
def V.topC : V → List C
  | .k (.c c) => [c]
  | .agg r => r
  | _ => []
theorem Spec.of_len {f : FuncId} {x : AF} {args : List V} {S : V → Prop} (hc : cFunc P f = some x)
    (h : (∀ v, v ∈ args → ∀ c, c ∈ v.topC → ∀ sz nl rows, c = .list sz nl rows → rows.length ≤ 9223372036854775807) → Spec P f args S) : Spec P f args S := by
  refine ⟨callable_of hc, fun w Z vs hG hz ha => (h ?_).2 w Z vs hG hz ha⟩
  rintro v hv c hcm sz nl rows rfl
  obtain ⟨j, hj⟩ := List.getElem?_of_mem hv
  have hlt : j < vs.toList.length := by rw [ha.1]; exact (List.getElem?_eq_some_iff.1 hj).1
  obtain ⟨hpu, hr⟩ := ha.2 j _ _ hj (List.getElem?_eq_getElem hlt)
  generalize vs.toList[j] = u at hr
  have key : ∀ u', PRep w Z (.list sz nl rows) u' → rows.length ≤ 9223372036854775807 := by
    intro u' hp
    cases hp with
    | nil => simp
    | emp => simp
    | list b o cap _ _ _ val h1 h2 h3 =>
      have : cap ≤ 9223372036854775807 := h3
      omega
  cases v with
  | k x =>
    cases x with
    | c y =>
      simp only [V.topC, List.mem_singleton] at hcm
      subst hcm
      exact key u hr.2
    | _ => simp [V.isPure] at hpu
  | agg r =>
    obtain ⟨cs, rfl, hrow⟩ := hr
    obtain ⟨k, hk⟩ := List.getElem?_of_mem (show C.list sz nl rows ∈ r from hcm)
    have hkl : k < cs.toList.length := by rw [hrow.1]; exact (List.getElem?_eq_some_iff.1 hk).1
    exact key _ (hrow.2 k _ _ hk (List.getElem?_eq_getElem hkl))
  | _ => simp [V.isPure] at hpu
end
end Go.Abs


namespace Go.Abs
theorem q_wpLs_eq_1 : type_of% @Go.Abs.wpLs.eq_1 := id @Go.Abs.wpLs.eq_1
theorem q_wpLs_eq_2 : type_of% @Go.Abs.wpLs.eq_2 := id @Go.Abs.wpLs.eq_2
theorem q_wpLQs_eq_1 : type_of% @Go.Abs.wpLQs.eq_1 := id @Go.Abs.wpLQs.eq_1
theorem q_wpLQs_eq_2 : type_of% @Go.Abs.wpLQs.eq_2 := id @Go.Abs.wpLQs.eq_2
theorem q_wpL_eq_1 : type_of% @Go.Abs.wpL.eq_1 := id @Go.Abs.wpL.eq_1
theorem q_wpLQ_eq_1 : type_of% @Go.Abs.wpLQ.eq_1 := id @Go.Abs.wpLQ.eq_1
theorem q_putDL_eq_1 : type_of% @Go.Abs.putDL.eq_1 := id @Go.Abs.putDL.eq_1
theorem q_AOp_dst_eq_1 : type_of% @Go.Abs.AOp.dst.eq_1 := id @Go.Abs.AOp.dst.eq_1
theorem q_AOp_dst_eq_3 : type_of% @Go.Abs.AOp.dst.eq_3 := id @Go.Abs.AOp.dst.eq_3
theorem q_AOp_dst_eq_6 : type_of% @Go.Abs.AOp.dst.eq_6 := id @Go.Abs.AOp.dst.eq_6
theorem q_AOp_dst_eq_7 : type_of% @Go.Abs.AOp.dst.eq_7 := id @Go.Abs.AOp.dst.eq_7
theorem q_AOp_dst_eq_8 : type_of% @Go.Abs.AOp.dst.eq_8 := id @Go.Abs.AOp.dst.eq_8
theorem q_AOp_dst_eq_10 : type_of% @Go.Abs.AOp.dst.eq_10 := id @Go.Abs.AOp.dst.eq_10
theorem q_AOp_dst_eq_13 : type_of% @Go.Abs.AOp.dst.eq_13 := id @Go.Abs.AOp.dst.eq_13
theorem q_AOp_dst_eq_14 : type_of% @Go.Abs.AOp.dst.eq_14 := id @Go.Abs.AOp.dst.eq_14
theorem q_AOp_dst_eq_20 : type_of% @Go.Abs.AOp.dst.eq_20 := id @Go.Abs.AOp.dst.eq_20
theorem q_AOp_dst_eq_22 : type_of% @Go.Abs.AOp.dst.eq_22 := id @Go.Abs.AOp.dst.eq_22
theorem q_AOp_dst_eq_23 : type_of% @Go.Abs.AOp.dst.eq_23 := id @Go.Abs.AOp.dst.eq_23
theorem q_AOp_dst_eq_27 : type_of% @Go.Abs.AOp.dst.eq_27 := id @Go.Abs.AOp.dst.eq_27
theorem q_AOp_dst_eq_32 : type_of% @Go.Abs.AOp.dst.eq_32 := id @Go.Abs.AOp.dst.eq_32
theorem q_exL_eq_1 : type_of% @Go.Abs.exL.eq_1 := id @Go.Abs.exL.eq_1
theorem q_exL_eq_2 : type_of% @Go.Abs.exL.eq_2 := id @Go.Abs.exL.eq_2
theorem q_exL_eq_3 : type_of% @Go.Abs.exL.eq_3 := id @Go.Abs.exL.eq_3
theorem q_exL_eq_4 : type_of% @Go.Abs.exL.eq_4 := id @Go.Abs.exL.eq_4
theorem q_exL_eq_5 : type_of% @Go.Abs.exL.eq_5 := id @Go.Abs.exL.eq_5
theorem q_exL_eq_6 : type_of% @Go.Abs.exL.eq_6 := id @Go.Abs.exL.eq_6
theorem q_exL_eq_7 : type_of% @Go.Abs.exL.eq_7 := id @Go.Abs.exL.eq_7
theorem q_exL_eq_8 : type_of% @Go.Abs.exL.eq_8 := id @Go.Abs.exL.eq_8
theorem q_exL_eq_9 : type_of% @Go.Abs.exL.eq_9 := id @Go.Abs.exL.eq_9
theorem q_exL_eq_11 : type_of% @Go.Abs.exL.eq_11 := id @Go.Abs.exL.eq_11
theorem q_exL_eq_14 : type_of% @Go.Abs.exL.eq_14 := id @Go.Abs.exL.eq_14
theorem q_exL_eq_15 : type_of% @Go.Abs.exL.eq_15 := id @Go.Abs.exL.eq_15
theorem q_exL_eq_16 : type_of% @Go.Abs.exL.eq_16 := id @Go.Abs.exL.eq_16
theorem q_exL_eq_17 : type_of% @Go.Abs.exL.eq_17 := id @Go.Abs.exL.eq_17
theorem q_exL_eq_18 : type_of% @Go.Abs.exL.eq_18 := id @Go.Abs.exL.eq_18
theorem q_exL_eq_21 : type_of% @Go.Abs.exL.eq_21 := id @Go.Abs.exL.eq_21
theorem q_exL_eq_23 : type_of% @Go.Abs.exL.eq_23 := id @Go.Abs.exL.eq_23
theorem q_exL_eq_24 : type_of% @Go.Abs.exL.eq_24 := id @Go.Abs.exL.eq_24
theorem q_exL_eq_28 : type_of% @Go.Abs.exL.eq_28 := id @Go.Abs.exL.eq_28
theorem q_exL_eq_29 : type_of% @Go.Abs.exL.eq_29 := id @Go.Abs.exL.eq_29
theorem q_exL_eq_30 : type_of% @Go.Abs.exL.eq_30 := id @Go.Abs.exL.eq_30
theorem q_exL_eq_33 : type_of% @Go.Abs.exL.eq_33 := id @Go.Abs.exL.eq_33
theorem q_exL_eq_34 : type_of% @Go.Abs.exL.eq_34 := id @Go.Abs.exL.eq_34
theorem q_exLQ_eq_1 : type_of% @Go.Abs.exLQ.eq_1 := id @Go.Abs.exLQ.eq_1
theorem q_exLQ_eq_3 : type_of% @Go.Abs.exLQ.eq_3 := id @Go.Abs.exLQ.eq_3
theorem q_exLQ_eq_8 : type_of% @Go.Abs.exLQ.eq_8 := id @Go.Abs.exLQ.eq_8
theorem q_exLQ_eq_9 : type_of% @Go.Abs.exLQ.eq_9 := id @Go.Abs.exLQ.eq_9
theorem q_exLQ_eq_10 : type_of% @Go.Abs.exLQ.eq_10 := id @Go.Abs.exLQ.eq_10
theorem q_exLQ_eq_12 : type_of% @Go.Abs.exLQ.eq_12 := id @Go.Abs.exLQ.eq_12
theorem q_exLQ_eq_16 : type_of% @Go.Abs.exLQ.eq_16 := id @Go.Abs.exLQ.eq_16
theorem q_exLQ_eq_22 : type_of% @Go.Abs.exLQ.eq_22 := id @Go.Abs.exLQ.eq_22
theorem q_exLQ_eq_24 : type_of% @Go.Abs.exLQ.eq_24 := id @Go.Abs.exLQ.eq_24
theorem q_exLQ_eq_29 : type_of% @Go.Abs.exLQ.eq_29 := id @Go.Abs.exLQ.eq_29
theorem q_exLQ_eq_33 : type_of% @Go.Abs.exLQ.eq_33 := id @Go.Abs.exLQ.eq_33
theorem q_exLQ_eq_36 : type_of% @Go.Abs.exLQ.eq_36 := id @Go.Abs.exLQ.eq_36
theorem q_look_eq_1 : type_of% @Go.Abs.look.eq_1 := id @Go.Abs.look.eq_1
theorem q_look_eq_2 : type_of% @Go.Abs.look.eq_2 := id @Go.Abs.look.eq_2
theorem q_lookO_eq_1 : type_of% @Go.Abs.lookO.eq_1 := id @Go.Abs.lookO.eq_1
theorem q_insT_eq_1 : type_of% @Go.Abs.insT.eq_1 := id @Go.Abs.insT.eq_1
theorem q_insO_eq_1 : type_of% @Go.Abs.insO.eq_1 := id @Go.Abs.insO.eq_1
theorem q_awl_eq_1 : type_of% @Go.Abs.awl.eq_1 := id @Go.Abs.awl.eq_1
theorem q_awl_eq_2 : type_of% @Go.Abs.awl.eq_2 := id @Go.Abs.awl.eq_2
theorem q_awl_eq_3 : type_of% @Go.Abs.awl.eq_3 := id @Go.Abs.awl.eq_3
theorem q_awl_eq_5 : type_of% @Go.Abs.awl.eq_5 := id @Go.Abs.awl.eq_5
theorem q_awl_eq_6 : type_of% @Go.Abs.awl.eq_6 := id @Go.Abs.awl.eq_6
theorem q_awl_eq_7 : type_of% @Go.Abs.awl.eq_7 := id @Go.Abs.awl.eq_7
theorem q_awl_eq_9 : type_of% @Go.Abs.awl.eq_9 := id @Go.Abs.awl.eq_9
theorem q_awl_eq_10 : type_of% @Go.Abs.awl.eq_10 := id @Go.Abs.awl.eq_10
theorem q_awl_eq_11 : type_of% @Go.Abs.awl.eq_11 := id @Go.Abs.awl.eq_11
theorem q_AE_thenL_eq_1 : type_of% @Go.Abs.AE.thenL.eq_1 := id @Go.Abs.AE.thenL.eq_1
theorem q_AE_thenL_eq_2 : type_of% @Go.Abs.AE.thenL.eq_2 := id @Go.Abs.AE.thenL.eq_2
theorem q_AE_thenL_eq_3 : type_of% @Go.Abs.AE.thenL.eq_3 := id @Go.Abs.AE.thenL.eq_3
theorem q_AE_inBlockL_eq_1 : type_of% @Go.Abs.AE.inBlockL.eq_1 := id @Go.Abs.AE.inBlockL.eq_1
theorem q_AE_inBlockL_eq_2 : type_of% @Go.Abs.AE.inBlockL.eq_2 := id @Go.Abs.AE.inBlockL.eq_2
theorem q_AE_inBlockL_eq_3 : type_of% @Go.Abs.AE.inBlockL.eq_3 := id @Go.Abs.AE.inBlockL.eq_3
theorem q_learn_eq_1 : type_of% @Go.Abs.learn.eq_1 := id @Go.Abs.learn.eq_1
theorem q_keepT_eq_1 : type_of% @Go.Abs.keepT.eq_1 := id @Go.Abs.keepT.eq_1
theorem q_keepT_eq_2 : type_of% @Go.Abs.keepT.eq_2 := id @Go.Abs.keepT.eq_2
theorem q_keepO_eq_1 : type_of% @Go.Abs.keepO.eq_1 := id @Go.Abs.keepO.eq_1
theorem q_keepO_eq_2 : type_of% @Go.Abs.keepO.eq_2 := id @Go.Abs.keepO.eq_2
theorem q_addO_eq_1 : type_of% @Go.Abs.addO.eq_1 := id @Go.Abs.addO.eq_1
theorem q_addO_eq_2 : type_of% @Go.Abs.addO.eq_2 := id @Go.Abs.addO.eq_2
theorem q_initT_eq_1 : type_of% @Go.Abs.initT.eq_1 := id @Go.Abs.initT.eq_1
theorem q_initT_eq_2 : type_of% @Go.Abs.initT.eq_2 := id @Go.Abs.initT.eq_2
theorem q_putK_eq_1 : type_of% @Go.Abs.putK.eq_1 := id @Go.Abs.putK.eq_1
theorem q_vBin_eq_1 : type_of% @Go.Abs.vBin.eq_1 := id @Go.Abs.vBin.eq_1
theorem q_resV_eq_1 : type_of% @Go.Abs.resV.eq_1 := id @Go.Abs.resV.eq_1
theorem q_binV_eq_1 : type_of% @Go.Abs.binV.eq_1 := id @Go.Abs.binV.eq_1
theorem q_binInt_eq_3 : type_of% @Go.Abs.binInt.eq_3 := id @Go.Abs.binInt.eq_3
theorem q_cutInt_eq_1 : type_of% @Go.Abs.cutInt.eq_1 := id @Go.Abs.cutInt.eq_1
theorem q_cutInt_eq_2 : type_of% @Go.Abs.cutInt.eq_2 := id @Go.Abs.cutInt.eq_2
theorem q_cutInt_eq_5 : type_of% @Go.Abs.cutInt.eq_5 := id @Go.Abs.cutInt.eq_5
theorem q_cutInt_eq_6 : type_of% @Go.Abs.cutInt.eq_6 := id @Go.Abs.cutInt.eq_6
theorem q_cutInt_eq_7 : type_of% @Go.Abs.cutInt.eq_7 := id @Go.Abs.cutInt.eq_7
theorem q_cutInt_eq_8 : type_of% @Go.Abs.cutInt.eq_8 := id @Go.Abs.cutInt.eq_8
theorem q_cutInt_eq_9 : type_of% @Go.Abs.cutInt.eq_9 := id @Go.Abs.cutInt.eq_9
theorem q_cutInt_eq_10 : type_of% @Go.Abs.cutInt.eq_10 := id @Go.Abs.cutInt.eq_10
theorem q_cutInt_eq_11 : type_of% @Go.Abs.cutInt.eq_11 := id @Go.Abs.cutInt.eq_11
theorem q_vUn_eq_1 : type_of% @Go.Abs.vUn.eq_1 := id @Go.Abs.vUn.eq_1
theorem q_unV_eq_2 : type_of% @Go.Abs.unV.eq_2 := id @Go.Abs.unV.eq_2
theorem q_mapC_eq_1 : type_of% @Go.Abs.mapC.eq_1 := id @Go.Abs.mapC.eq_1
theorem q_vConv_eq_1 : type_of% @Go.Abs.vConv.eq_1 := id @Go.Abs.vConv.eq_1
theorem q_vLen_eq_1 : type_of% @Go.Abs.vLen.eq_1 := id @Go.Abs.vLen.eq_1
theorem q_vLen_eq_2 : type_of% @Go.Abs.vLen.eq_2 := id @Go.Abs.vLen.eq_2
theorem q_lenO_eq_1 : type_of% @Go.Abs.lenO.eq_1 := id @Go.Abs.lenO.eq_1
theorem q_vNil_eq_1 : type_of% @Go.Abs.vNil.eq_1 := id @Go.Abs.vNil.eq_1
theorem q_vNil_eq_2 : type_of% @Go.Abs.vNil.eq_2 := id @Go.Abs.vNil.eq_2
theorem q_nilO_eq_1 : type_of% @Go.Abs.nilO.eq_1 := id @Go.Abs.nilO.eq_1
theorem q_vFaddr_eq_1 : type_of% @Go.Abs.vFaddr.eq_1 := id @Go.Abs.vFaddr.eq_1
theorem q_vFaddr_eq_2 : type_of% @Go.Abs.vFaddr.eq_2 := id @Go.Abs.vFaddr.eq_2
theorem q_vFaddr_eq_3 : type_of% @Go.Abs.vFaddr.eq_3 := id @Go.Abs.vFaddr.eq_3
theorem q_vFaddr_eq_4 : type_of% @Go.Abs.vFaddr.eq_4 := id @Go.Abs.vFaddr.eq_4
theorem q_partV_eq_1 : type_of% @Go.Abs.partV.eq_1 := id @Go.Abs.partV.eq_1
theorem q_partV_eq_2 : type_of% @Go.Abs.partV.eq_2 := id @Go.Abs.partV.eq_2
theorem q_loadO_eq_1 : type_of% @Go.Abs.loadO.eq_1 := id @Go.Abs.loadO.eq_1
theorem q_loadO_eq_2 : type_of% @Go.Abs.loadO.eq_2 := id @Go.Abs.loadO.eq_2
theorem q_isV_eq_1 : type_of% @Go.Abs.isV.eq_1 := id @Go.Abs.isV.eq_1
theorem q_isA_eq_1 : type_of% @Go.Abs.isA.eq_1 := id @Go.Abs.isA.eq_1
theorem q_vLoad_eq_1 : type_of% @Go.Abs.vLoad.eq_1 := id @Go.Abs.vLoad.eq_1
theorem q_vLoad_eq_2 : type_of% @Go.Abs.vLoad.eq_2 := id @Go.Abs.vLoad.eq_2
theorem q_vLoad_eq_3 : type_of% @Go.Abs.vLoad.eq_3 := id @Go.Abs.vLoad.eq_3
theorem q_vLoad_eq_4 : type_of% @Go.Abs.vLoad.eq_4 := id @Go.Abs.vLoad.eq_4
theorem q_vIaddr_eq_1 : type_of% @Go.Abs.vIaddr.eq_1 := id @Go.Abs.vIaddr.eq_1
theorem q_vIaddr_eq_2 : type_of% @Go.Abs.vIaddr.eq_2 := id @Go.Abs.vIaddr.eq_2
theorem q_idxO_eq_1 : type_of% @Go.Abs.idxO.eq_1 := id @Go.Abs.idxO.eq_1
theorem q_vIaddrA_eq_1 : type_of% @Go.Abs.vIaddrA.eq_1 := id @Go.Abs.vIaddrA.eq_1
theorem q_vIaddrA_eq_3 : type_of% @Go.Abs.vIaddrA.eq_3 := id @Go.Abs.vIaddrA.eq_3
theorem q_vPick_eq_1 : type_of% @Go.Abs.vPick.eq_1 := id @Go.Abs.vPick.eq_1
theorem q_vPick_eq_2 : type_of% @Go.Abs.vPick.eq_2 := id @Go.Abs.vPick.eq_2
theorem q_vPick_eq_3 : type_of% @Go.Abs.vPick.eq_3 := id @Go.Abs.vPick.eq_3
theorem q_vBuild_eq_1 : type_of% @Go.Abs.vBuild.eq_1 := id @Go.Abs.vBuild.eq_1
theorem q_vBuild_eq_2 : type_of% @Go.Abs.vBuild.eq_2 := id @Go.Abs.vBuild.eq_2
theorem q_rowV_eq_1 : type_of% @Go.Abs.rowV.eq_1 := id @Go.Abs.rowV.eq_1
theorem q_vInts_eq_1 : type_of% @Go.Abs.vInts.eq_1 := id @Go.Abs.vInts.eq_1
theorem q_vInts_eq_2 : type_of% @Go.Abs.vInts.eq_2 := id @Go.Abs.vInts.eq_2
theorem q_foldV_eq_1 : type_of% @Go.Abs.foldV.eq_1 := id @Go.Abs.foldV.eq_1
theorem q_vMinmax_eq_1 : type_of% @Go.Abs.vMinmax.eq_1 := id @Go.Abs.vMinmax.eq_1
theorem q_minmaxI_eq_1 : type_of% @Go.Abs.minmaxI.eq_1 := id @Go.Abs.minmaxI.eq_1
theorem q_ofRow_eq_1 : type_of% @Go.Abs.ofRow.eq_1 := id @Go.Abs.ofRow.eq_1
theorem q_ofRow_eq_2 : type_of% @Go.Abs.ofRow.eq_2 := id @Go.Abs.ofRow.eq_2
theorem q_pureRow_eq_1 : type_of% @Go.Abs.pureRow.eq_1 := id @Go.Abs.pureRow.eq_1
theorem q_pureRow_eq_2 : type_of% @Go.Abs.pureRow.eq_2 := id @Go.Abs.pureRow.eq_2
theorem q_pureRow_eq_3 : type_of% @Go.Abs.pureRow.eq_3 := id @Go.Abs.pureRow.eq_3
theorem q_V_cells_eq_1 : type_of% @Go.Abs.V.cells.eq_1 := id @Go.Abs.V.cells.eq_1
theorem q_V_cells_eq_2 : type_of% @Go.Abs.V.cells.eq_2 := id @Go.Abs.V.cells.eq_2
theorem q_splice_eq_1 {α : Type} (row : List α) (off : Nat) (ks : List α) : splice row off ks = row.take off ++ ks ++ row.drop (off + ks.length) := id rfl
theorem q_isVarO_eq_1 : type_of% @Go.Abs.isVarO.eq_1 := id @Go.Abs.isVarO.eq_1
theorem q_isArrO_eq_1 : type_of% @Go.Abs.isArrO.eq_1 := id @Go.Abs.isArrO.eq_1
theorem q_nlApp_eq_2 : type_of% @Go.Abs.nlApp.eq_2 := id @Go.Abs.nlApp.eq_2
theorem q_boxK_eq_1 : type_of% @Go.Abs.boxK.eq_1 := id @Go.Abs.boxK.eq_1
theorem q_vRow_eq_1 : type_of% @Go.Abs.vRow.eq_1 := id @Go.Abs.vRow.eq_1
theorem q_vRow_eq_2 : type_of% @Go.Abs.vRow.eq_2 := id @Go.Abs.vRow.eq_2
theorem q_vLits_eq_1 : type_of% @Go.Abs.vLits.eq_1 := id @Go.Abs.vLits.eq_1
theorem q_vLits_eq_2 : type_of% @Go.Abs.vLits.eq_2 := id @Go.Abs.vLits.eq_2
theorem q_bsK_eq_1 : type_of% @Go.Abs.bsK.eq_1 := id @Go.Abs.bsK.eq_1
theorem q_bsQ_eq_1 : type_of% @Go.Abs.bsQ.eq_1 := id @Go.Abs.bsQ.eq_1
theorem q_stVarK_eq_1 : type_of% @Go.Abs.stVarK.eq_1 := id @Go.Abs.stVarK.eq_1
theorem q_stArrK_eq_1 : type_of% @Go.Abs.stArrK.eq_1 := id @Go.Abs.stArrK.eq_1
theorem q_storeK_eq_1 : type_of% @Go.Abs.storeK.eq_1 := id @Go.Abs.storeK.eq_1
theorem q_storeK_eq_2 : type_of% @Go.Abs.storeK.eq_2 := id @Go.Abs.storeK.eq_2
theorem q_mkslK_eq_1 : type_of% @Go.Abs.mkslK.eq_1 := id @Go.Abs.mkslK.eq_1
theorem q_srcO_eq_1 : type_of% @Go.Abs.srcO.eq_1 := id @Go.Abs.srcO.eq_1
theorem q_srcV_eq_1 : type_of% @Go.Abs.srcV.eq_1 := id @Go.Abs.srcV.eq_1
theorem q_srcV_eq_2 : type_of% @Go.Abs.srcV.eq_2 := id @Go.Abs.srcV.eq_2
theorem q_appK_eq_1 : type_of% @Go.Abs.appK.eq_1 := id @Go.Abs.appK.eq_1
theorem q_appNK_eq_1 : type_of% @Go.Abs.appNK.eq_1 := id @Go.Abs.appNK.eq_1
theorem q_appendK_eq_1 : type_of% @Go.Abs.appendK.eq_1 := id @Go.Abs.appendK.eq_1
theorem q_appendK_eq_2 : type_of% @Go.Abs.appendK.eq_2 := id @Go.Abs.appendK.eq_2
theorem q_mapT_eq_1 : type_of% @Go.Abs.mapT.eq_1 := id @Go.Abs.mapT.eq_1
theorem q_mapT_eq_2 : type_of% @Go.Abs.mapT.eq_2 := id @Go.Abs.mapT.eq_2
theorem q_mapO_eq_1 : type_of% @Go.Abs.mapO.eq_1 := id @Go.Abs.mapO.eq_1
theorem q_mapO_eq_2 : type_of% @Go.Abs.mapO.eq_2 := id @Go.Abs.mapO.eq_2
theorem q_delO_eq_1 : type_of% @Go.Abs.delO.eq_1 := id @Go.Abs.delO.eq_1
theorem q_delO_eq_2 : type_of% @Go.Abs.delO.eq_2 := id @Go.Abs.delO.eq_2
theorem q_freeB_eq_1 : type_of% @Go.Abs.freeB.eq_1 := id @Go.Abs.freeB.eq_1
theorem q_freeT_eq_1 : type_of% @Go.Abs.freeT.eq_1 := id @Go.Abs.freeT.eq_1
theorem q_freeT_eq_2 : type_of% @Go.Abs.freeT.eq_2 := id @Go.Abs.freeT.eq_2
theorem q_freeO_eq_1 : type_of% @Go.Abs.freeO.eq_1 := id @Go.Abs.freeO.eq_1
theorem q_freeO_eq_2 : type_of% @Go.Abs.freeO.eq_2 := id @Go.Abs.freeO.eq_2
theorem q_V_noRef_eq_1 : type_of% @Go.Abs.V.noRef.eq_1 := id @Go.Abs.V.noRef.eq_1
theorem q_V_noRef_eq_2 : type_of% @Go.Abs.V.noRef.eq_2 := id @Go.Abs.V.noRef.eq_2
theorem q_V_noRef_eq_5 : type_of% @Go.Abs.V.noRef.eq_5 := id @Go.Abs.V.noRef.eq_5
theorem q_K_noRef_eq_1 : type_of% @Go.Abs.K.noRef.eq_1 := id @Go.Abs.K.noRef.eq_1
theorem q_K_noRef_eq_2 : type_of% @Go.Abs.K.noRef.eq_2 := id @Go.Abs.K.noRef.eq_2
theorem q_K_noRef_eq_3 : type_of% @Go.Abs.K.noRef.eq_3 := id @Go.Abs.K.noRef.eq_3
theorem q_K_noRef_eq_4 : type_of% @Go.Abs.K.noRef.eq_4 := id @Go.Abs.K.noRef.eq_4
theorem q_K_noRef_eq_5 : type_of% @Go.Abs.K.noRef.eq_5 := id @Go.Abs.K.noRef.eq_5
theorem q_O_noRef_eq_1 : type_of% @Go.Abs.O.noRef.eq_1 := id @Go.Abs.O.noRef.eq_1
theorem q_O_noRef_eq_2 : type_of% @Go.Abs.O.noRef.eq_2 := id @Go.Abs.O.noRef.eq_2
theorem q_V_scrub_eq_1 : type_of% @Go.Abs.V.scrub.eq_1 := id @Go.Abs.V.scrub.eq_1
theorem q_V_scrub_eq_3 : type_of% @Go.Abs.V.scrub.eq_3 := id @Go.Abs.V.scrub.eq_3
theorem q_V_scrub_eq_4 : type_of% @Go.Abs.V.scrub.eq_4 := id @Go.Abs.V.scrub.eq_4
theorem q_K_scrub_eq_1 : type_of% @Go.Abs.K.scrub.eq_1 := id @Go.Abs.K.scrub.eq_1
theorem q_K_scrub_eq_2 : type_of% @Go.Abs.K.scrub.eq_2 := id @Go.Abs.K.scrub.eq_2
theorem q_K_scrub_eq_3 : type_of% @Go.Abs.K.scrub.eq_3 := id @Go.Abs.K.scrub.eq_3
theorem q_K_scrub_eq_5 : type_of% @Go.Abs.K.scrub.eq_5 := id @Go.Abs.K.scrub.eq_5
theorem q_O_scrub_eq_1 : type_of% @Go.Abs.O.scrub.eq_1 := id @Go.Abs.O.scrub.eq_1
theorem q_O_scrub_eq_2 : type_of% @Go.Abs.O.scrub.eq_2 := id @Go.Abs.O.scrub.eq_2
theorem q_endK_eq_2 : type_of% @Go.Abs.endK.eq_2 := id @Go.Abs.endK.eq_2
theorem q_endL_eq_1 : type_of% @Go.Abs.endL.eq_1 := id @Go.Abs.endL.eq_1
theorem q_endV_eq_1 : type_of% @Go.Abs.endV.eq_1 := id @Go.Abs.endV.eq_1
theorem q_resL_eq_1 : type_of% @Go.Abs.resL.eq_1 := id @Go.Abs.resL.eq_1
theorem q_resL_eq_2 : type_of% @Go.Abs.resL.eq_2 := id @Go.Abs.resL.eq_2
theorem q_resX_eq_1 : type_of% @Go.Abs.resX.eq_1 := id @Go.Abs.resX.eq_1
theorem q_one_eq_1 : type_of% @Go.Abs.one.eq_1 := id @Go.Abs.one.eq_1
theorem q_V_nrm_eq_1 : type_of% @Go.Abs.V.nrm.eq_1 := id @Go.Abs.V.nrm.eq_1
theorem q_V_nrm_eq_2 : type_of% @Go.Abs.V.nrm.eq_2 := id @Go.Abs.V.nrm.eq_2
theorem q_V_nrm_eq_4 : type_of% @Go.Abs.V.nrm.eq_4 := id @Go.Abs.V.nrm.eq_4
theorem q_V_nrm_eq_5 : type_of% @Go.Abs.V.nrm.eq_5 := id @Go.Abs.V.nrm.eq_5
theorem q_K_nrm_eq_1 : type_of% @Go.Abs.K.nrm.eq_1 := id @Go.Abs.K.nrm.eq_1
theorem q_K_nrm_eq_2 : type_of% @Go.Abs.K.nrm.eq_2 := id @Go.Abs.K.nrm.eq_2
theorem q_K_nrm_eq_3 : type_of% @Go.Abs.K.nrm.eq_3 := id @Go.Abs.K.nrm.eq_3
theorem q_V_nrmL_eq_1 : type_of% @Go.Abs.V.nrmL.eq_1 := id @Go.Abs.V.nrmL.eq_1
theorem q_O_nrm_eq_1 : type_of% @Go.Abs.O.nrm.eq_1 := id @Go.Abs.O.nrm.eq_1
theorem q_O_nrm_eq_2 : type_of% @Go.Abs.O.nrm.eq_2 := id @Go.Abs.O.nrm.eq_2
theorem q_V_owns_eq_1 : type_of% @Go.Abs.V.owns.eq_1 := id @Go.Abs.V.owns.eq_1
theorem q_K_owns_eq_1 : type_of% @Go.Abs.K.owns.eq_1 := id @Go.Abs.K.owns.eq_1
theorem q_K_owns_eq_2 : type_of% @Go.Abs.K.owns.eq_2 := id @Go.Abs.K.owns.eq_2
theorem q_V_toNew_eq_1 : type_of% @Go.Abs.V.toNew.eq_1 := id @Go.Abs.V.toNew.eq_1
theorem q_K_toNew_eq_1 : type_of% @Go.Abs.K.toNew.eq_1 := id @Go.Abs.K.toNew.eq_1
theorem q_K_toNew_eq_2 : type_of% @Go.Abs.K.toNew.eq_2 := id @Go.Abs.K.toNew.eq_2
theorem q_C_norm_eq_1 : type_of% @Go.Abs.C.norm.eq_1 := id @Go.Abs.C.norm.eq_1
theorem q_C_norm_eq_2 : type_of% @Go.Abs.C.norm.eq_2 := id @Go.Abs.C.norm.eq_2
theorem q_C_norm_eq_3 : type_of% @Go.Abs.C.norm.eq_3 := id @Go.Abs.C.norm.eq_3
theorem q_C_norm_eq_4 : type_of% @Go.Abs.C.norm.eq_4 := id @Go.Abs.C.norm.eq_4
theorem q_C_norm_eq_5 : type_of% @Go.Abs.C.norm.eq_5 := id @Go.Abs.C.norm.eq_5
theorem q_C_normRow_eq_1 : type_of% @Go.Abs.C.normRow.eq_1 := id @Go.Abs.C.normRow.eq_1
theorem q_C_normRow_eq_2 : type_of% @Go.Abs.C.normRow.eq_2 := id @Go.Abs.C.normRow.eq_2
theorem q_C_normRows_eq_1 : type_of% @Go.Abs.C.normRows.eq_1 := id @Go.Abs.C.normRows.eq_1
theorem q_C_normRows_eq_2 : type_of% @Go.Abs.C.normRows.eq_2 := id @Go.Abs.C.normRows.eq_2
theorem q_V_fz_eq_1 : type_of% @Go.Abs.V.fz.eq_1 := id @Go.Abs.V.fz.eq_1
theorem q_K_fz_eq_2 : type_of% @Go.Abs.K.fz.eq_2 := id @Go.Abs.K.fz.eq_2
theorem q_regN_eq_1 : type_of% @Go.Abs.regN.eq_1 := id @Go.Abs.regN.eq_1
theorem q_V_reg_eq_4 : type_of% @Go.Abs.V.reg.eq_4 := id @Go.Abs.V.reg.eq_4
theorem q_freesL_eq_1 : type_of% @Go.Abs.freesL.eq_1 := id @Go.Abs.freesL.eq_1
theorem q_addsL_eq_1 : type_of% @Go.Abs.addsL.eq_1 := id @Go.Abs.addsL.eq_1
theorem q_regK_eq_1 : type_of% @Go.Abs.regK.eq_1 := id @Go.Abs.regK.eq_1
theorem q_retK_eq_2 : type_of% @Go.Abs.retK.eq_2 := id @Go.Abs.retK.eq_2
theorem q_List_map_nil {α β : Type} {f : α → β} : List.map f [] = [] := id rfl
theorem q_List_map_cons {α β : Type} {f : α → β} {a : α} {l : List α} : List.map f (a :: l) = f a :: List.map f l := id rfl
theorem q_List_take_succ_cons {α : Type} {a : α} {l : List α} {i : Nat} : List.take (i + 1) (a :: l) = a :: List.take i l := id rfl
theorem q_List_take_zero {α : Type} {l : List α} : List.take 0 l = [] := id rfl
theorem q_List_drop_succ_cons {α : Type} {a : α} {l : List α} {i : Nat} : List.drop (i + 1) (a :: l) = List.drop i l := id rfl
theorem q_List_drop_zero {α : Type} {l : List α} : List.drop 0 l = l := id rfl
theorem q_List_nil_append {α : Type} {l : List α} : [] ++ l = l := id rfl
theorem q_List_cons_append {α : Type} {a : α} {l m : List α} : (a :: l) ++ m = a :: (l ++ m) := id rfl
theorem q_List_foldl_cons {α β : Type} {f : β → α → β} {a : α} {l : List α} {b : β} : List.foldl f b (a :: l) = List.foldl f (f b a) l := id rfl
theorem q_List_foldl_nil {α β : Type} {f : β → α → β} {b : β} : List.foldl f b [] = b := id rfl
theorem q_List_replicate_succ {α : Type} {a : α} {n : Nat} : List.replicate (n + 1) a = a :: List.replicate n a := id rfl
theorem q_List_replicate_zero {α : Type} {a : α} : List.replicate 0 a = [] := id rfl
theorem q_List_set_cons_zero {α : Type} {a b : α} {l : List α} : List.set (a :: l) 0 b = b :: l := id rfl
theorem q_List_set_cons_succ {α : Type} {a b : α} {l : List α} {n : Nat} : List.set (a :: l) (n + 1) b = a :: List.set l n b := id rfl
theorem q_List_length_cons {α : Type} {a : α} {l : List α} : (a :: l).length = l.length + 1 := id rfl
theorem q_List_length_nil {α : Type} : ([] : List α).length = 0 := id rfl
theorem q_List_getD_cons_zero {α : Type} {a d : α} {l : List α} : (a :: l).getD 0 d = a := id rfl
theorem q_List_getD_cons_succ {α : Type} {a d : α} {l : List α} {n : Nat} : (a :: l).getD (n + 1) d = l.getD n d := by simp
theorem q_List_all_cons {α : Type} {p : α → Bool} {a : α} {l : List α} : (a :: l).all p = (p a && l.all p) := id rfl
theorem q_List_all_nil {α : Type} {p : α → Bool} : ([] : List α).all p = true := id rfl
theorem q_List_isEmpty_cons {α : Type} {a : α} {l : List α} : (a :: l).isEmpty = false := id rfl
theorem q_Option_map_some {α β : Type} {f : α → β} {a : α} : Option.map f (some a) = some (f a) := id rfl
theorem q_Bool_not_true : (!true) = false := id rfl
theorem q_Bool_not_false : (!false) = true := id rfl
theorem q_guardP_eq_1 : type_of% @Go.Abs.guardP.eq_1 := id @Go.Abs.guardP.eq_1
theorem q_guardP_eq_2 : type_of% @Go.Abs.guardP.eq_2 := id @Go.Abs.guardP.eq_2
theorem q_guardP_eq_3 : type_of% @Go.Abs.guardP.eq_3 := id @Go.Abs.guardP.eq_3
theorem q_condK_eq_1 : type_of% @Go.Abs.condK.eq_1 := id @Go.Abs.condK.eq_1
theorem q_condB_eq_1 : type_of% @Go.Abs.condB.eq_1 := id @Go.Abs.condB.eq_1
theorem q_condB_eq_2 : type_of% @Go.Abs.condB.eq_2 := id @Go.Abs.condB.eq_2
theorem q_exK_eq_1 : type_of% @Go.Abs.exK.eq_1 := id @Go.Abs.exK.eq_1
theorem q_exKQ_eq_1 : type_of% @Go.Abs.exKQ.eq_1 := id @Go.Abs.exKQ.eq_1
def roK (o : Nat) : Option (List C) → K
  | some r => .c (.ro r o)
  | none => .dead
theorem q_roK_1 (o : Nat) (r : List C) : roK o (some r) = .c (.ro r o) := id rfl
def fnkF (f : FuncId) (l : List Cap) : Option (List C) → K
  | some cs => .c (.fn f cs)
  | none => .fnk f l
theorem q_fnkF_1 (f : FuncId) (l : List Cap) (cs : List C) : fnkF f l (some cs) = .c (.fn f cs) := id rfl
def capR (s : Nat) : Option (List C) → Cap
  | some r => .ro r 0
  | none => .tok s
theorem q_capR_1 (s : Nat) (r : List C) : capR s (some r) = .ro r 0 := id rfl
section
variable (τ : Nat) (ob : O) (e : TypeId) (row : List K)
theorem z_V_k (x : K) : V.frz τ ob (.k x) = .k (x.frz τ ob) := id rfl
theorem z_V_agg (r : List C) : V.frz τ ob (.agg r) = .agg r := id rfl
theorem z_K_c (x : C) : K.frz τ ob (.c x) = .c x := id rfl
theorem z_K_pel (sz : Nat) (rows : List (List C)) (i o : Nat) : K.frz τ ob (.pel sz rows i o) = .pel sz rows i o := id rfl
theorem z_K_dead : K.frz τ ob .dead = .dead := id rfl
theorem z_K_ptr (s o : Nat) : K.frz τ (.var e row) (.ptr s o) = if s = τ then roK o (pureRow row) else .ptr s o := by
  simp only [K.frz]
  split
  · cases pureRow row <;> rfl
  · rfl
theorem z_K_fnk (f : FuncId) (caps : List Cap) : K.frz τ ob (.fnk f caps) = fnkF f (caps.map (Cap.frz τ ob)) (pureCaps (caps.map (Cap.frz τ ob))) := by
  simp only [K.frz]
  cases pureCaps (caps.map (Cap.frz τ ob)) <;> rfl
theorem z_Cap_tok (s : Nat) : Cap.frz τ (.var e row) (.tok s) = if s = τ then capR s (pureRow row) else .tok s := by
  simp only [Cap.frz]
  split
  · cases pureRow row <;> rfl
  · rfl
theorem z_O_var : O.frz τ ob (.var e row) = .var e (row.map (K.frz τ ob)) := id rfl
theorem z_O_arr (sz : Nat) (nl : Option Bool) (rows : List (List C)) : O.frz τ ob (.arr e sz nl rows) = .arr e sz nl rows := id rfl
end
theorem z_frzT (τ : Nat) (ts : TS) (os : OS) (ob : O) : frzT τ ts os (some ob) = mapT (fun v => v.frz τ ob) ts := id rfl
theorem z_frzO (τ : Nat) (os : OS) (ob : O) : frzO τ os (some ob) = mapO (O.frz τ ob) (delO τ os) := id rfl
def capP (p : Prop) (c : Cap) : Option (Prop × List Cap) → Option (Prop × List Cap)
  | some (q, l) => some (p ∧ q, c :: l)
  | none => none
theorem z_capP (p q : Prop) (c : Cap) (l : List Cap) : capP p c (some (q, l)) = some (p ∧ q, c :: l) := id rfl
theorem z_caps_nil (o : Nat → Option O) : vCaps o [] = some (True, []) := id rfl
theorem z_caps_ptr (o : Nat → Option O) (τ : Nat) (vs : List V) : vCaps o (.k (.ptr τ 0) :: vs) = capP (isVarO (o τ) = true) (.tok τ) (vCaps o vs) := by
  simp only [vCaps]
  cases vCaps o vs <;> rfl
def fnP (f : FuncId) (p : Prop) (cs : List Cap) : Option (List C) → Option (Prop × V)
  | some l => some (p, .k (.c (.fn f l)))
  | none => some (p, .k (.fnk f cs))
theorem z_fnV (f : FuncId) (p : Prop) (cs : List Cap) : fnV f (some (p, cs)) = fnP f p cs (pureCaps cs) := by
  simp only [fnV]
  cases pureCaps cs <;> rfl
theorem z_fnP2 (f : FuncId) (p : Prop) (cs : List Cap) : fnP f p cs none = some (p, .k (.fnk f cs)) := id rfl
theorem z_pureCaps_nil : pureCaps [] = some [] := id rfl
theorem z_pureCaps_tok (s : Nat) (l : List Cap) : pureCaps (.tok s :: l) = none := id rfl
theorem z_pureCaps_ro (row : List C) (off : Nat) (l : List Cap) : pureCaps (.ro row off :: l) = (pureCaps l).map (.ro row off :: ·) := id rfl
section
variable (x y : Nat)
end
theorem q_awl_eq_14 : type_of% @Go.Abs.awl.eq_14 := id @Go.Abs.awl.eq_14
section
variable (τ : Nat) (ob : O) (e : TypeId) (sz : Nat) (nl : Option Bool) (rows : List (List C))
theorem z_K_own_arr (s : Nat) : K.frz τ (.arr e sz nl rows) (.own s) = if s = τ then .c (.list sz nl rows) else .own s := id rfl
theorem z_K_elem_arr (s i o : Nat) : K.frz τ (.arr e sz nl rows) (.elem s i o) = if s = τ then .pel sz rows i o else .elem s i o := id rfl
theorem z_K_ptr_arr (s o : Nat) : K.frz τ (.arr e sz nl rows) (.ptr s o) = if s = τ then .dead else .ptr s o := id rfl
end
theorem z_frzT0 (τ : Nat) (ts : TS) (os : OS) : frzT τ ts os none = ts := id rfl
theorem z_frzO0 (τ : Nat) (os : OS) : frzO τ os none = os := id rfl
end Go.Abs


namespace Go.Abs
open Go.Sort Go.Proofs Go.Shelf Go.Lib
def intRows (l : List Int) : List (List C) := l.map fun n => [.int .i64 n]
def oneI (e : TypeId) (τ : Nat) (l : List Int) : Nat → Option O := fun s => if s = τ then some (.arr e 1 none (intRows l)) else none
def sortI (l : List Int) : List Int := l.mergeSort fun x y => decide (x ≤ y)
theorem cells_of_rep {w : World} {Z : Bk → Prop} {l : List Int} {cur : Array Value}
    (hrr : ∀ (i j : Nat) r c, (intRows l)[i]? = some r → r[j]? = some c → ∃ v, cur[i * 1 + j]? = some v ∧ PRep w Z c v) : cur.toList.take l.length = l.map (Value.int .i64) := by
  have key : ∀ i (h : i < l.length), cur[i]? = some (.int .i64 l[i]) := by
    intro i h
    obtain ⟨v, hv, hp⟩ := hrr i 0 [.int .i64 l[i]] (.int .i64 l[i]) (by simp [intRows, h]) rfl
    have := prep_int hp
    subst this
    simpa using hv
  apply List.ext_getElem?
  intro i
  by_cases h : i < l.length
  · rw [List.getElem?_take_of_lt h, Array.getElem?_toList, key i h]
    simp [h]
  · rw [List.getElem?_take_eq_none (by omega), List.getElem?_eq_none (by simp; omega)]
theorem rep_of_cells {w : World} {Z : Bk → Prop} {l : List Int} {cur : Array Value} (h : cur.toList.take l.length = l.map (Value.int .i64)) :
    ∀ (i j : Nat) r c, (intRows l)[i]? = some r → r[j]? = some c → ∃ v, cur[i * 1 + j]? = some v ∧ PRep w Z c v := by
  intro i j r c hr hc
  simp only [intRows, List.getElem?_map, Option.map_eq_some_iff] at hr
  obtain ⟨n, hn, rfl⟩ := hr
  have hi : i < l.length := (List.getElem?_eq_some_iff.1 hn).1
  cases j with
  | succ j => simp at hc
  | zero =>
    simp at hc
    subst hc
    refine ⟨.int .i64 n, ?_, .int .i64 n⟩
    have e : (cur.toList.take l.length)[i]? = (l.map (Value.int .i64))[i]? := by rw [h]
    rw [List.getElem?_take_of_lt hi] at e
    simp only [Nat.mul_one, Nat.add_zero]
    rw [← Array.getElem?_toList, e]
    simp [hn]
theorem rows_len (l : List Int) : ∀ r, r ∈ intRows l → r.length = 1 := by
  intro r hr
  simp only [intRows, List.mem_map] at hr
  obtain ⟨n, _, rfl⟩ := hr
  rfl
theorem sortI_nil : sortI [] = [] := by simp [sortI]
theorem compact_le (zs : List Int) : (Lib.compact zs).length ≤ zs.length := by
  unfold Lib.compact Lib.compactUpTo
  rw [List.length_map]
  exact Nat.le_trans (List.length_filter_le _ _) (by simp)
section
variable {P : Program} {ρ : Ren} {e : TypeId} {τ : Nat} {l : List Int}
theorem vs_one {vs : Array Value} (h : vs.size = 1) : ∃ v, vs = #[v] := by
  obtain ⟨l⟩ := vs
  match l, h with
  | [v], _ => exact ⟨v, rfl⟩
theorem state_eq {x r : V} (o : Nat → Option O) (ob : O) (h : ∀ s, s ≠ τ → o s = none) : (((⟨fun s => [x].getD s .any, o⟩ : St).scrub τ).setO τ ob).put 0 r = ⟨fun s => if s = 0 then r else .any, fun s => if s = τ then some ob else none⟩ := by
  simp only [St.put, St.setO, St.scrub, St.mk.injEq]
  refine ⟨?_, ?_⟩
  · funext s
    by_cases hs : s = 0
    · simp [hs]
    · obtain ⟨n, rfl⟩ : ∃ n, s = n + 1 := ⟨s - 1, by omega⟩
      simp [V.scrub]
  · funext s
    by_cases hs : s = τ
    · simp [hs]
    · simp [hs, h s hs]
theorem intRows_norm (l : List Int) : C.normRows (intRows l) = intRows l := by
  induction l with
  | nil => rfl
  | cons a l ih => simp only [intRows, List.map_cons] at ih ⊢; simp only [C.normRows, ih]; rfl
theorem tab_one {os : OS} {nl : Option Bool} (ho : lookO τ os = some (.arr e 1 nl (intRows l))) : (tabIn [τ] fun s => (lookO s os).map O.nrm) = oneI e τ l := by
  funext s
  by_cases h : s = τ
  · subst h
    simp [tabIn, ho, oneI, O.nrm, intRows_norm]
  · simp [tabIn, oneI, h]
theorem within_one (s : Nat) (ob : O) (h : oneI e τ l s = some ob) : ob.within [τ] = true := by
  unfold oneI at h
  split at h
  · cases h; rfl
  · cases h
theorem back_sort (ts : TS) (os : OS) : (mkS ts os).back [τ] [] (oneI e τ l) = mkS ts (insO τ (.arr e 1 none (intRows l)) os) := by
  simp only [St.back, mkS, St.mk.injEq]
  refine ⟨by funext s; rfl, ?_⟩
  funext s
  rw [lookO_ins]
  by_cases h : s = τ
  · subst h; simp [oneI]
  · simp only [List.contains_cons, List.contains_nil, Bool.or_false, beq_iff_eq, h, if_false]
    cases lookO s os <;> rfl
section
variable {f : FuncId} {xs : List AX} {K : KK} {ts : TS} {os : OS} {nl : Option Bool} {X : Prop}
end
end
end Go.Abs


namespace Go.Abs
open Go.Sort Go.Proofs Go.Shelf Go.Lib
inductive NoSz (n : Nat) : C → Prop where
  | int (k : IntKind) (m : Int) : NoSz n (.int k m)
  | bool (b : Bool) : NoSz n (.bool b)
  | str (s : List UInt8) : NoSz n (.str s)
  | gl (g : Nat) : NoSz n (.gl g)
  | list (sz : Nat) (nl : Option Bool) (rows : List (List C)) : sz ≠ n → (∀ r, r ∈ rows → ∀ c, c ∈ r → NoSz n c) → NoSz n (.list sz nl rows)
theorem PRep.noSz {w : World} {Z : Bk → Prop} {n : Nat} {c : C} {v : Value} (h : PRep w Z c v) : NoSz n c → PRep w (fun b => Z b ∧ b.1 ≠ n) c v := by
  induction h with
  | int k n => intro _; exact .int k n
  | bool b => intro _; exact .bool b
  | str s => intro _; exact .str s
  | nil sz nl h => intro _; exact .nil sz nl h
  | emp sz nl a h => intro _; exact .emp sz nl a h
  | list b o cap sz nl rows val h1 h2 h3 h4 h5 h6 h7 ih =>
    intro hn
    cases hn with
    | list _ _ _ g1 g2 => exact .list b o cap sz nl rows val h1 h2 h3 (fun h => ⟨h4 h, g1⟩) h5 h6 fun i j r c hr hc => ih i j r c hr hc (g2 r (List.mem_of_getElem? hr) c (List.mem_of_getElem? hc))
  | ro b row off val h1 h2 h3 ih => intro hn; cases hn
  | nilf => intro hn; cases hn
  | gl g l h => intro hn; exact .gl g l h
  | fn f caps vs val h1 h2 h3 ih => intro hn; cases hn
def NoSzV (n : Nat) : V → Prop
  | .k (.c c) => NoSz n c
  | .agg r => ∀ c, c ∈ r → NoSz n c
  | _ => False
theorem ARep.noSz {w : World} {Z : Bk → Prop} {n : Nat} {args : List V} {vs : List Value} (h : ARep w Z args vs) (hn : ∀ x, x ∈ args → NoSzV n x) : ARep w (fun b => Z b ∧ b.1 ≠ n) args vs := by
  refine ⟨h.1, fun j x v hx hv => ?_⟩
  obtain ⟨h1, h2⟩ := h.2 j x v hx hv
  have h3 := hn x (List.mem_of_getElem? hx)
  refine ⟨h1, ?_⟩
  cases x with
  | k y =>
    cases y with
    | c c => exact ⟨h2.1, PRep.noSz (show PRep w Z c v from h2.2) h3⟩
    | _ => exact h3.elim
  | agg r =>
    obtain ⟨cs, e, h4⟩ := h2
    exact ⟨cs, e, h4.1, fun j c u hc hu => (h4.2 j c u hc hu).noSz (h3 c (List.mem_of_getElem? hc))⟩
  | _ => exact h3.elim
section
variable {P : Program} {ρ : Ren} {l : List Int} {w0 : Base} {Z0 : Bk → Prop} {w : World} {κ : Kap} {o : Nat → Option O} {v : Value} {nl : Option Bool}
end
section
variable {P : Program}
def AOp.other : AOp → Bool
  | .mov _ _ => false
  | .call _ _ _ => false
  | _ => true
section
variable {a : Act} {w : World} {ops : Array Oper} {i n : Nat} {o : Oper} {Q : Exit → Act → World → Prop} {K : Act → World → Prop}
end
end
end Go.Abs


namespace Go.Abs
open Go.Proofs Go.Shelf Go.Lib
section
variable {P : Program}
theorem Spec.plain {f : FuncId} {args : List V} {S : V → Prop} (h : Spec P f args S) : Spec P f args (fun r' => ∃ r, S r ∧ r' = r.fz.nrm) := by
  refine ⟨h.1, fun w Z vs hG hz ha => (h.2 w Z vs hG hz ha).mono ?_⟩
  rintro e w' ⟨v, r, rfl, hr, hcl, hrep⟩
  have hnr : ∀ τ, (r.fz.nrm).noRef τ = true := by
    intro τ
    have key : ∀ (r : V), (r.fz).nrm.noRef τ = true := by
      intro r
      have := (fz_noRef τ r).1
      revert this
      generalize r.fz = u
      exact nrm_noRef u
    exact key r
  refine ⟨v, _, rfl, ⟨r, hr, rfl⟩, hnr, fun n => ?_⟩
  obtain ⟨κr, hI⟩ := hrep 0
  have hv := hI.tmps 0
  have e3 : (#[v] : Array Value).getD 0 undef = v := rfl
  simp only [e3, if_true] at hv
  have hreg : ∀ m, ((r.fz.nrm).reg m) = (r.fz.nrm, []) := fun m => reg_fz m r
  rw [hreg]
  refine ⟨fun _ => none, hI.kept, hI.glob, fun τ b h => absurd (by simp [tabOf] : (tabOf n [] : Nat → Option O) τ = none) h, fun τ τ' b h => absurd (by simp [tabOf] : (tabOf n [] : Nat → Option O) τ = none) h, fun τ ob h => ?_, fun s => ?_⟩
  · simp [tabOf] at h
  · by_cases hs : s = 0
    · subst hs
      refine VRep.nrm (fz_rep (Z := Zof (base w) Z κr (tabOf 0 (r.reg 0).2) w') (κ := κr) (o := tabOf 0 (r.reg 0).2) ⟨fun b hb => ?_, fun τ ob hob => ⟨hI.objs τ ob hob, fun c b hb => ?_⟩⟩ r 0 v (fun i ob hob => ?_) hv)
      · exact ⟨hb.1, hb.2.1, fun τ hτ => absurd (by simp [tabOf] : (tabOf n [] : Nat → Option O) τ = none) hτ⟩
      · have := hI.own τ b (by simp only [hob]; simp) hb
        exact ⟨.inr ⟨this.1, soft_of_obj (hI.objs τ ob hob) hb⟩, this.2, fun τ hτ => absurd (by simp [tabOf] : (tabOf n [] : Nat → Option O) τ = none) hτ⟩
      · simp only [tabOf, Nat.zero_le, if_true, Nat.sub_zero, Nat.zero_add]; exact hob
    · simp only [hs, if_false]; trivial
where
  knrm {τ : Nat} : ∀ (k : K), k.noRef τ = true → k.nrm.noRef τ = true := by intro k h; cases k <;> first | exact h | rfl
  nrm_noRef {τ : Nat} : ∀ (u : V), u.noRef τ = true → u.nrm.noRef τ = true
    | .k x, h => by simp only [V.noRef, V.nrm] at h ⊢; exact knrm x h
    | .agg r, h => rfl
    | .agk r, h => by
      simp only [V.noRef, V.nrm, List.all_eq_true, List.mem_map] at h ⊢
      rintro x ⟨y, hy, rfl⟩
      exact knrm y (h y hy)
    | .tup vs, h => by simp only [V.noRef, V.nrm] at h ⊢; exact nrm_noRefL vs h
    | .undef, h => rfl
    | .any, h => rfl
  nrm_noRefL {τ : Nat} : ∀ (us : List V), V.noRefL τ us = true → V.noRefL τ (V.nrmL us) = true
    | [], h => rfl
    | u :: us, h => by simp only [V.noRefL, V.nrmL, Bool.and_eq_true] at h ⊢; exact ⟨nrm_noRef u h.1, nrm_noRefL us h.2⟩
  regs_fz : ∀ (l : List K) (m : Nat), K.regs m ((l.map Abs.K.fz).map Abs.K.nrm) = ((l.map Abs.K.fz).map Abs.K.nrm, [])
    | [], m => rfl
    | k :: l, m => by cases k <;> simp only [List.map_cons, Abs.K.fz, Abs.K.nrm, K.regs, regs_fz l m]
  reg_fz (m : Nat) : ∀ (r : V), (r.fz.nrm).reg m = (r.fz.nrm, [])
    | .k x => by cases x <;> rfl
    | .agg r => rfl
    | .agk r => by
      simp only [V.fz]
      cases e : pureRow (r.map Abs.K.fz) with
      | some cs => rfl
      | none => simp only [V.nrm, V.reg, regs_fz r m]
    | .tup vs => by simp only [V.fz, V.nrm, V.reg, regL_fz m vs]
    | .undef => rfl
    | .any => rfl
  regL_fz (m : Nat) : ∀ (rs : List V), V.regL m (V.nrmL (V.fzL rs)) = (V.nrmL (V.fzL rs), [])
    | [] => rfl
    | r :: rs => by simp only [V.fzL, V.nrmL, V.regL, reg_fz m r, List.length_nil, Nat.add_zero, regL_fz m rs, List.append_nil]
end
end Go.Abs


namespace Go.Abs
open Go.ChangeShapes Go.RowKit
def fldsOk (P : Program) : Nat → List Field → Nat → Bool
  | k, [], n => k == n
  | k, f :: fs, n => f.offset == k && fldsOk P (k + P.cellsOf f.type) fs n
def plainT (P : Program) (T : List TypeId) : Bool := T.all fun t =>
  match P.underlying t with
  | some .bool | some (.int _) | some .string => P.cellsOf t == 1
  | some (.slice e) => P.cellsOf t == 1 && T.contains e && decide (0 < P.cellsOf e)
  | some (.struct fs) => fs.toList.all (fun f => T.contains f.type) && fldsOk P 0 fs.toList (P.cellsOf t)
  | _ => false
def ShapeL (S : TypeId → List C → Prop) : List TypeId → List (List C) → Prop
  | [], [] => True
  | t :: ts, r :: rs => S t r ∧ ShapeL S ts rs
  | _, _ => False
def Shape (P : Program) : Nat → TypeId → List C → Prop
  | 0, _, _ => False
  | n + 1, t, r =>
    match P.underlying t with
    | some .bool => ∃ b, r = [.bool b]
    | some (.int k) => ∃ m, r = [.int k m] ∧ (Lit.int k m).wf = true
    | some .string => ∃ s : List UInt8, r = [.str s] ∧ s.length ≤ 9223372036854775807
    | some (.slice e) => ∃ rows : List (List C), r = [.list (if rows.isEmpty then 0 else P.cellsOf e) none rows] ∧ rows.length ≤ 9223372036854775807 ∧ ∀ x ∈ rows, Shape P n e x
    | some (.struct fs) => ∃ rs, r = rs.flatten ∧ ShapeL (Shape P n) (fs.toList.map (·.type)) rs
    | _ => False
mutual
def C.bulk : C → Nat
  | .str s => s.length + 1
  | .list _ _ rows => C.bulkRows rows + 1
  | _ => 1
def C.bulkRow : List C → Nat
  | [] => 0
  | c :: r => c.bulk + C.bulkRow r
def C.bulkRows : List (List C) → Nat
  | [] => 0
  | r :: l => C.bulkRow r + C.bulkRows l
end
theorem bulkRow_append : ∀ (a b : List C), C.bulkRow (a ++ b) = C.bulkRow a + C.bulkRow b
  | [], b => by simp [C.bulkRow]
  | x :: a, b => by simp only [List.cons_append, C.bulkRow, bulkRow_append a b]; omega
def V.bulk : V → Nat
  | .k (.c c) => c.bulk
  | .agg r => C.bulkRow r
  | _ => 0
def bulkVs : List V → Nat
  | [] => 0
  | v :: l => v.bulk + bulkVs l
structure Bulk {H : Type} (U : DataW H → Nat) (UA : List (DataW H) → Nat) : Prop where
  one : ∀ d, 1 ≤ U d
  str : ∀ s, s.length + 1 ≤ U (.lit (.string s))
  slice : ∀ es sp, UA es + 1 ≤ U (.slice es sp)
  agg : ∀ ps, UA ps ≤ U (.agg ps)
  cons : ∀ d l, UA (d :: l) = U d + UA l
section
variable {H : Type} {enc : TypeId × Value → H} {P : Program} {T : List TypeId}
theorem bulkRows_le {U : DataW H → Nat} {UA : List (DataW H) → Nat} (hB : Bulk U UA) : ∀ (rows : List (List C)) (ds : List (DataW H)), rows.length = ds.length → (∀ (i : Nat) r d, rows[i]? = some r → ds[i]? = some d → C.bulkRow r ≤ U d) → C.bulkRows rows ≤ UA ds
  | [], ds, _, _ => by simp [C.bulkRows]
  | r :: rows, [], h, _ => by simp at h
  | r :: rows, d :: ds, h, hr => by
    have h1 := hr 0 r d rfl rfl
    have h2 := bulkRows_le hB rows ds (by simpa using h) fun i r d hi hd => hr (i + 1) r d (by simpa using hi) (by simpa using hd)
    simp only [C.bulkRows, hB.cons]
    omega
theorem plain_at (hT : plainT P T = true) {t : TypeId} (ht : t ∈ T) : (match P.underlying t with
  | some .bool | some (.int _) | some .string => P.cellsOf t == 1
  | some (.slice e) => P.cellsOf t == 1 && T.contains e && decide (0 < P.cellsOf e)
  | some (.struct fs) => fs.toList.all (fun f => T.contains f.type) && fldsOk P 0 fs.toList (P.cellsOf t)
  | _ => false) = true := List.all_eq_true.1 hT t ht
theorem fieldsLen {n : Nat} (ih : ∀ t r, t ∈ T → Shape P n t r → r.length = P.cellsOf t) : ∀ (fs : List Field) (k N : Nat) (rs : List (List C)), (∀ f ∈ fs, f.type ∈ T) → fldsOk P k fs N = true →
    ShapeL (Shape P n) (fs.map (·.type)) rs → k + rs.flatten.length = N
  | [], k, N, [], _, h, _ => by simpa [fldsOk] using h
  | f :: fs, k, N, r :: rs, hf, h, hs => by
    simp only [fldsOk, Bool.and_eq_true] at h
    have h1 := ih _ _ (hf f (by simp)) hs.1
    have h2 := fieldsLen ih fs _ N rs (fun g hg => hf g (by simp [hg])) h.2 hs.2
    simp only [List.flatten_cons, List.length_append, h1]
    omega
  | [], _, _, _ :: _, _, _, h => h.elim
  | _ :: _, _, _, [], _, _, h => h.elim
theorem Shape.len (hT : plainT P T = true) : ∀ (n : Nat) (t : TypeId) (r : List C), t ∈ T → Shape P n t r → r.length = P.cellsOf t
  | 0, _, _, _, h => h.elim
  | n + 1, t, r, ht, h => by
    have hp := plain_at hT ht
    simp only [Shape] at h
    split at h
    · rename_i hu; rw [hu] at hp
      obtain ⟨b, rfl⟩ := h
      simp only [beq_iff_eq] at hp; simp [hp]
    · rename_i hu; rw [hu] at hp
      obtain ⟨m, rfl, _⟩ := h
      simp only [beq_iff_eq] at hp; simp [hp]
    · rename_i hu; rw [hu] at hp
      obtain ⟨m, rfl, _⟩ := h
      simp only [beq_iff_eq] at hp; simp [hp]
    · rename_i hu; rw [hu] at hp
      obtain ⟨m, rfl, _⟩ := h
      simp only [Bool.and_eq_true, beq_iff_eq] at hp; simp [hp]
    · rename_i fs hu; rw [hu] at hp
      obtain ⟨rs, rfl, hs⟩ := h
      simp only [Bool.and_eq_true, List.all_eq_true, List.contains_iff_mem] at hp
      have := fieldsLen (Shape.len hT n) fs.toList 0 (P.cellsOf t) rs (fun f hf => hp.1 f hf) hp.2 hs
      omega
    · exact h.elim
theorem choose_list {α β : Type} {R : Nat → β → Prop} : ∀ (n : Nat), (∀ i, i < n → ∃ b, R i b) → ∃ l : List β, l.length = n ∧ ∀ (i : Nat) b, l[i]? = some b → R i b
  | 0, _ => ⟨[], rfl, by simp⟩
  | n + 1, h => by
    obtain ⟨l, hl, hr⟩ := choose_list (α := α) n (fun i hi => h i (by omega))
    obtain ⟨b, hb⟩ := h n (by omega)
    refine ⟨l ++ [b], by simp [hl], fun i c hc => ?_⟩
    rcases Nat.lt_or_ge i l.length with hi | hi
    · rw [List.getElem?_append_left hi] at hc; exact hr i c hc
    · rw [List.getElem?_append_right hi] at hc
      have : i - l.length = 0 := by
        rcases Nat.eq_zero_or_pos (i - l.length) with h0 | h0
        · exact h0
        · obtain ⟨m, hm⟩ : ∃ m, i - l.length = m + 1 := ⟨i - l.length - 1, by omega⟩
          rw [hm] at hc; simp at hc
      rw [this] at hc
      simp at hc
      subst hc
      have : i = n := by omega
      subst this; exact hb
theorem cells_at {w : World} {a : Addr} {n : Nat} {cs : List Value} (h : w.cells? 0 a n = some cs) : cs.length = n ∧ ∀ j, j < n → w.cell? (a.add j) = cs[j]? := by
  unfold World.cells? at h
  rw [if_pos (Nat.zero_le _)] at h
  refine ⟨by simpa using mapM_some_length h, fun j hj => ?_⟩
  exact mapM_some_get h j j (by simp [hj])
theorem prow_append {w : World} {Z : Bk → Prop} {r1 r2 : List C} {c1 c2 : List Value} (h1 : PRow w Z r1 c1) (h2 : PRow w Z r2 c2) : PRow w Z (r1 ++ r2) (c1 ++ c2) := by
  obtain ⟨l1, g1⟩ := h1
  obtain ⟨l2, g2⟩ := h2
  refine ⟨by simp [l1, l2], fun j c v hc hv => ?_⟩
  rcases Nat.lt_or_ge j r1.length with hj | hj
  · rw [List.getElem?_append_left hj] at hc
    rw [List.getElem?_append_left (by omega)] at hv
    exact g1 j c v hc hv
  · rw [List.getElem?_append_right hj] at hc
    rw [List.getElem?_append_right (by omega)] at hv
    rw [l1] at hv
    exact g2 _ c v hc hv
theorem prow_one {w : World} {Z : Bk → Prop} {c : C} {v : Value} (h : PRep w Z c v) : PRow w Z [c] [v] := by
  refine ⟨rfl, fun j c' v' hc hv => ?_⟩
  cases j with
  | zero => simp at hc hv; subst hc; subst hv; exact h
  | succ j => simp at hc
theorem fields_row {w : World} {Z : Bk → Prop} {n : Nat} {cs : List Value} {N : Nat} (ih : ∀ t cs x, t ∈ T → DataW.trod enc P w 0 (fun _ => true) true n t cs = some x → ∃ r, Shape P n t r ∧ PRow w Z r cs ∧ ∀ (U : DataW H → Nat) (UA : List (DataW H) → Nat), Bulk U UA → C.bulkRow r ≤ U x.1) (hcs : cs.length = N) :
    ∀ (fs : List Field) (k : Nat) (xs : List (DataW H × List MemPlace)), (∀ f ∈ fs, f.type ∈ T) → fldsOk P k fs N = true → k ≤ N → xs.length = fs.length →
      (∀ (i : Nat) f, fs[i]? = some f → DataW.trod enc P w 0 (fun _ => true) true n f.type ((cs.drop f.offset).take (P.cellsOf f.type)) = xs[i]?) →
      ∃ rs, ShapeL (Shape P n) (fs.map (·.type)) rs ∧ PRow w Z rs.flatten (cs.drop k) ∧ ∀ (U : DataW H → Nat) (UA : List (DataW H) → Nat), Bulk U UA → C.bulkRow rs.flatten ≤ UA (xs.map (·.1))
  | [], k, xs, _, h, hk, _, _ => by
    simp only [fldsOk, beq_iff_eq] at h
    refine ⟨[], trivial, ?_, fun _ _ _ => by simp [C.bulkRow]⟩
    rw [List.drop_eq_nil_of_le (by omega)]
    exact ⟨rfl, by simp⟩
  | f :: fs, k, [], hf, h, hk, hl, hx => by simp at hl
  | f :: fs, k, x :: xs, hf, h, hk, hl, hx => by
    simp only [fldsOk, Bool.and_eq_true, beq_iff_eq] at h
    obtain ⟨ho, h⟩ := h
    have hle : ∀ (fs : List Field) (k : Nat), fldsOk P k fs N = true → k ≤ N := by
      intro fs
      induction fs with
      | nil => intro k h; simp [fldsOk] at h; omega
      | cons g gs ihg => intro k h; simp only [fldsOk, Bool.and_eq_true] at h; have := ihg _ h.2; omega
    have hk2 := hle fs _ h
    have hx1 := hx 0 f rfl
    obtain ⟨r, hs, hr, hb⟩ := ih _ _ _ (hf f (by simp)) hx1
    obtain ⟨rs, hss, hrs, hbs⟩ := fields_row ih hcs fs (k + P.cellsOf f.type) xs (fun g hg => hf g (by simp [hg])) h hk2 (by simpa using hl) (fun i g hg => hx (i + 1) g (by simpa using hg))
    refine ⟨r :: rs, ⟨hs, hss⟩, ?_, fun U UA hB => ?_⟩
    · have e : cs.drop k = (cs.drop f.offset).take (P.cellsOf f.type) ++ cs.drop (k + P.cellsOf f.type) := by
        rw [ho, ← List.drop_drop]
        exact (List.take_append_drop _ _).symm
      rw [e]
      exact prow_append hr hrs
    · have h1 := hb U UA hB
      have h2 := hbs U UA hB
      rw [List.flatten_cons, bulkRow_append, List.map_cons, hB.cons]
      omega
theorem trod_row (hT : plainT P T = true) {w : World} {Z : Bk → Prop} (hZ : ∀ b, b.2 < w.heap.size → Z b) : ∀ (n : Nat) (t : TypeId) (cs : List Value) (x : DataW H × List MemPlace), t ∈ T →
    DataW.trod enc P w 0 (fun _ => true) true n t cs = some x → ∃ r, Shape P n t r ∧ PRow w Z r cs ∧ ∀ (U : DataW H → Nat) (UA : List (DataW H) → Nat), Bulk U UA → C.bulkRow r ≤ U x.1
  | 0, _, _, _, _, h => by simp [DataW.trod] at h
  | n + 1, t, cs, x, ht, h => by
    have hp := plain_at hT ht
    simp only [Shape]
    split
    · rename_i hu
      obtain ⟨b, rfl, _⟩ := DataW.trod_bool hu h
      exact ⟨[.bool b], ⟨b, rfl⟩, prow_one (.bool b), fun U UA hB => hB.one _⟩
    · rename_i k hu
      obtain ⟨m, rfl, _, hw⟩ := DataW.trod_int hu h
      exact ⟨[.int k m], ⟨m, rfl, hw⟩, prow_one (.int k m), fun U UA hB => hB.one _⟩
    · rename_i hu
      obtain ⟨s, rfl, rfl, hs⟩ := DataW.trod_string hu h
      refine ⟨[.str s.data.toList], ⟨_, rfl, ?_⟩, prow_one ?_, fun U UA hB => hB.str _⟩
      · have h2 : s.size ≤ 9223372036854775807 := hs
        have e : s.data.toList.length = s.size := by rw [Array.length_toList]; rfl
        omega
      · have := PRep.str (w := w) (Z := Z) s.data.toList
        simpa using this
    · rename_i e hu
      rw [hu] at hp
      simp only [Bool.and_eq_true, decide_eq_true_eq, List.contains_iff_mem, beq_iff_eq] at hp
      obtain ⟨⟨_, he⟩, h0⟩ := hp
      rcases DataW.trod_slice hu h with ⟨rfl, _⟩ | ⟨a, len, cap, elems, rest, m, hm, rfl, rfl, _, hlc, hcap, hlen, hel, hre, _⟩
      · exact ⟨[.list 0 none []], ⟨[], by simp, by simp, by simp⟩, prow_one (.nil 0 none (by simp)), fun U UA hB => hB.one _⟩
      · obtain rfl : n = m := by omega
        have hmax : cap ≤ 9223372036854775807 := hcap
        by_cases hc0 : cap = 0
        · subst hc0
          obtain rfl : len = 0 := by omega
          exact ⟨[.list 0 none []], ⟨[], by simp, by simp, by simp⟩, prow_one (.emp 0 none a (by simp)), fun U UA hB => hB.one _⟩

        have read : ∀ i, i < cap → ∃ cs' y, w.cells? 0 (a.add (i * P.cellsOf e)) (P.cellsOf e) = some cs' ∧ DataW.trod enc P w 0 (fun _ => true) true n e cs' = some y := by
          intro i hi
          rcases Nat.lt_or_ge i len with hil | hil
          · have := hel i hil
            rw [List.getElem?_eq_getElem (by omega)] at this
            obtain ⟨cs', h1, h2⟩ := Option.bind_eq_some_iff.1 this
            exact ⟨cs', _, h1, h2⟩
          · obtain ⟨hr1, hr2⟩ := hre rfl
            have := hr2 (i - len) (by omega)
            rw [List.getElem?_eq_getElem (by omega)] at this
            obtain ⟨cs', h1, h2⟩ := Option.bind_eq_some_iff.1 this
            have hi2 : len + (i - len) = i := by omega
            rw [hi2] at h1
            exact ⟨cs', _, h1, h2⟩
        have hspot : ∃ b o, a = ⟨b, o, none⟩ := by
          obtain ⟨cs', y, h1, _⟩ := read 0 (by omega)
          obtain ⟨hl, hc⟩ := cells_at h1
          have := hc 0 h0
          rw [List.getElem?_eq_getElem (by omega)] at this
          have := World.cell?_spot this
          obtain ⟨b, o, sp⟩ := a
          simp [Addr.add] at this
          subst this
          exact ⟨b, o, rfl⟩
        obtain ⟨b, o, rfl⟩ := hspot
        obtain ⟨rows, hrl, hrows⟩ := choose_list (α := Unit) (R := fun i r => Shape P n e r ∧ (∀ (U : DataW H → Nat) (UA : List (DataW H) → Nat), Bulk U UA → ∀ y, elems[i]? = some y → C.bulkRow r ≤ U y.1) ∧ ∃ cs', (∀ j, j < P.cellsOf e → w.cell? ⟨b, o + (i * P.cellsOf e + j), none⟩ = cs'[j]?) ∧ PRow w Z r cs') len (by
          intro i hi
          obtain ⟨cs', y, h1, h2⟩ := read i (by omega)
          obtain ⟨r, hs, hr, hb⟩ := trod_row hT hZ n e cs' y he h2
          refine ⟨r, hs, fun U UA hB y' hy' => ?_, cs', fun j hj => ?_, hr⟩
          · have := hel i hi
            rw [h1, Option.bind_some, h2, hy'] at this
            cases this
            exact hb U UA hB
          have := (cells_at h1).2 j hj
          rw [addr_add, addr_add] at this
          rw [← this, Nat.add_assoc])
        have hb : b < w.heap.size := by
          obtain ⟨cs', y, h1, _⟩ := read 0 (by omega)
          obtain ⟨hl, hc⟩ := cells_at h1
          have := hc 0 h0
          rw [List.getElem?_eq_getElem (by omega)] at this
          have := World.block_lt_of_cell? w _ this
          simpa [Addr.add] using this
        have hall : ∀ r, r ∈ rows → r.length = P.cellsOf e := by
          intro r hr
          obtain ⟨i, hi⟩ := List.getElem?_of_mem hr
          exact Shape.len hT n e r he (hrows i r hi).1
        refine ⟨[.list (if rows.isEmpty then 0 else P.cellsOf e) none rows], ⟨rows, rfl, by omega, fun r hr => ?_⟩, prow_one ?_, fun U UA hB => ?_⟩
        · obtain ⟨i, hi⟩ := List.getElem?_of_mem hr
          exact (hrows i r hi).1
        · have hnil : rows ≠ [] → (if rows.isEmpty = true then 0 else P.cellsOf e) = P.cellsOf e := by intro hne; cases rows <;> simp_all
          have key := PRep.list (w := w) (Z := Z) b o cap (if rows.isEmpty = true then 0 else P.cellsOf e) none rows (fun i j => (w.cell? ⟨b, o + (i * P.cellsOf e + j), none⟩).getD undef) (by simp) (by omega) hcap
            (fun _ => hZ _ hb) (fun r hr => by rw [hnil (by rintro rfl; simp at hr)]; exact hall r hr) (fun i j r c hr hc => ?_) (fun i j r c hr hc => ?_)
          · rw [hrl] at key; exact key
          · obtain ⟨_, _, cs', h1, h2⟩ := hrows i r hr
            have hj : j < P.cellsOf e := by rw [← hall r (List.mem_of_getElem? hr)]; exact (List.getElem?_eq_some_iff.1 hc).1
            rw [hnil (by rintro rfl; simp at hr)]
            rw [h1 j hj, List.getElem?_eq_getElem (by rw [h2.1]; exact (List.getElem?_eq_some_iff.1 hc).1)]
            rfl
          · obtain ⟨_, _, cs', h1, h2⟩ := hrows i r hr
            have hj : j < P.cellsOf e := by rw [← hall r (List.mem_of_getElem? hr)]; exact (List.getElem?_eq_some_iff.1 hc).1
            have hj2 : j < cs'.length := by rw [h2.1]; exact (List.getElem?_eq_some_iff.1 hc).1
            have := h1 j hj
            rw [List.getElem?_eq_getElem hj2] at this
            simp only [this, Option.getD_some]
            exact h2.2 j c _ hc (List.getElem?_eq_getElem hj2)
        · have h1 := bulkRows_le hB rows (elems.map (·.1)) (by simp [hrl, hlen]) fun i r d hr hd => by
            simp only [List.getElem?_map, Option.map_eq_some_iff] at hd
            obtain ⟨y, hy, rfl⟩ := hd
            exact (hrows i r hr).2.1 U UA hB y hy
          have h2 := hB.slice (elems.map (·.1)) (rest.map (·.1))
          simp only [C.bulkRow, C.bulk]
          omega
    · rename_i fs hu
      rw [hu] at hp
      simp only [Bool.and_eq_true, List.all_eq_true, List.contains_iff_mem] at hp
      obtain ⟨xs, m, hm, rfl, hcl, hxl, hx⟩ := DataW.trod_struct hu h
      obtain rfl : n = m := by omega
      obtain ⟨rs, h1, h2, h3⟩ := fields_row (enc := enc) (fun t cs x => trod_row hT hZ n t cs x) hcl fs.toList 0 xs hp.1 hp.2 (Nat.zero_le _) (by simpa using hxl) (fun i f hf => hx i f (by simpa using hf))
      exact ⟨_, ⟨rs, rfl, h1⟩, by simpa using h2, fun U UA hB => Nat.le_trans (h3 U UA hB) (hB.agg _)⟩
    · rename_i h1 h2 h3 h4 h5
      exfalso
      revert hp
      split <;> simp_all
def argV (P : Program) (t : TypeId) (r : List C) : V :=
  match P.underlying t with
  | some (.struct _) => .agg r
  | _ => match r with | [c] => .k (.c c) | _ => .any
def ArgsOf (P : Program) : List TypeId → List V → Prop
  | [], [] => True
  | t :: ts, v :: vs => (∃ n r, Shape P n t r ∧ v = argV P t r) ∧ ArgsOf P ts vs
  | _, _ => False
theorem trodAll_args (hT : plainT P T = true) {w : World} {Z : Bk → Prop} (hZ : ∀ b, b.2 < w.heap.size → Z b) {base : Nat} : ∀ (ts : List TypeId) (vs : List Value) (ds : List (DataW H)) (ps : List MemPlace), (∀ t ∈ ts, t ∈ T) →
    (∀ (j : Nat) t v, ts[j]? = some t → vs[j]? = some v → Value.okWide P w .any base t v) →
    DataW.TrodAll enc P w 0 (fun _ => true) true ts vs ds ps → ∃ xs, ArgsOf P ts xs ∧ ARep w Z xs vs ∧ ∀ (U : DataW H → Nat) (UA : List (DataW H) → Nat), Bulk U UA → bulkVs xs ≤ UA ds
  | [], [], [], _, _, _, _ => ⟨[], trivial, ⟨rfl, by simp⟩, fun _ _ _ => by simp [bulkVs]⟩
  | t :: ts, v :: vs, d :: ds, ps, hm, hok, ⟨p, q, ⟨n, h1⟩, h2, _⟩ => by
    obtain ⟨r, hs, hr, hb⟩ := trod_row hT hZ n t _ _ (hm t (by simp)) h1
    obtain ⟨xs, hx, ha, hbs⟩ := trodAll_args hT hZ ts vs ds q (fun t ht => hm t (by simp [ht])) (fun j t v h h' => hok (j + 1) t v (by simpa using h) (by simpa using h')) h2
    have hv := hok 0 t v rfl rfl
    have key : ∃ x, x = argV P t r ∧ x.isPure = true ∧ VRep w Z (fun _ => none) (fun _ => none) x v ∧ x.bulk ≤ C.bulkRow r := by
      have hp := plain_at hT (hm t (by simp))
      unfold Value.okWide at hv
      cases n with
      | zero => exact hs.elim
      | succ n =>
      simp only [Shape] at hs
      have one : ∀ c, r = [c] → (∀ cs, v ≠ .agg cs) → (∀ cs, v ≠ .tuple cs) → V.isPure (.k (.c c)) = true ∧ VRep w Z (fun _ => none) (fun _ => none) (.k (.c c)) v ∧ V.bulk (.k (.c c)) ≤ C.bulkRow r := by
        rintro c rfl hna hnt
        have hc : v.cells = #[v] := by cases v <;> simp [Value.cells] <;> (first | exact absurd rfl (hna _) | exact absurd rfl (hnt _))
        rw [hc] at hr
        have := hr.2 0 c v rfl rfl
        exact ⟨rfl, ⟨this.oneCell, this⟩, by simp [V.bulk, C.bulkRow]⟩
      have nagg : ∀ {d : TypeDesc}, P.underlying t = some d → (∀ fs, d ≠ .struct fs) → (∀ n e, d ≠ .array n e) → (∀ m, d ≠ .interface m) → (∀ k e, d ≠ .map k e) → Cell.okWide P w .any base t v → True := fun _ _ _ _ _ _ => trivial
      split at hs
      · rename_i hu
        unfold argV; rw [hu] at hv ⊢
        obtain ⟨b, rfl⟩ := hs
        simp only [Cell.okWide, Cell.ok, hu] at hv
        refine ⟨_, rfl, one _ rfl ?_ ?_⟩ <;> rintro cs rfl <;> simp at hv
      · rename_i hu
        unfold argV; rw [hu] at hv ⊢
        obtain ⟨b, rfl, _⟩ := hs
        simp only [Cell.okWide, Cell.ok, hu] at hv
        refine ⟨_, rfl, one _ rfl ?_ ?_⟩ <;> rintro cs rfl <;> simp at hv
      · rename_i hu
        unfold argV; rw [hu] at hv ⊢
        obtain ⟨b, rfl, _⟩ := hs
        simp only [Cell.okWide, Cell.ok, hu] at hv
        refine ⟨_, rfl, one _ rfl ?_ ?_⟩ <;> rintro cs rfl <;> simp at hv
      · rename_i hu
        unfold argV; rw [hu] at hv ⊢
        obtain ⟨b, rfl, _⟩ := hs
        simp only [Cell.okWide, Cell.ok, hu] at hv
        refine ⟨_, rfl, one _ rfl ?_ ?_⟩ <;> rintro cs rfl <;> simp at hv
      · rename_i fs hu
        unfold argV; rw [hu] at hv ⊢
        obtain ⟨cs, rfl, _⟩ := hv
        exact ⟨_, rfl, rfl, ⟨cs, rfl, by simpa [Value.cells] using hr⟩, Nat.le_refl _⟩
      · exact hs.elim
    obtain ⟨x, hx1, hx2, hx3, hx4⟩ := key
    refine ⟨x :: xs, ⟨⟨n, r, hs, hx1⟩, hx⟩, ⟨by simp [ha.1], fun j y u hy hu => ?_⟩, fun U UA hB => by
      have h1 : C.bulkRow r ≤ U d := hb U UA hB
      have h2 := hbs U UA hB
      simp only [bulkVs, hB.cons]
      omega⟩
    cases j with
    | zero => simp at hy hu; subst hy; subst hu; exact ⟨hx2, hx3⟩
    | succ j => exact ha.2 j y u (by simpa using hy) (by simpa using hu)
  | [], _ :: _, _, _, _, _, h => by simp [DataW.TrodAll] at h
  | [], [], _ :: _, _, _, _, h => by simp [DataW.TrodAll] at h
  | _ :: _, [], _, _, _, _, h => by simp [DataW.TrodAll] at h
  | _ :: _, _ :: _, [], _, _, _, h => by simp [DataW.TrodAll] at h
theorem kept_keptBut {w w' : World} (h : Kept w w') (may : MemPlace → Prop) : w.keptBut w' may := by
  refine ⟨h.os, h.output, fun i hi => ?_⟩
  rw [h.block i hi]
  have := (World.keptBut_refl w may).2.2 i hi
  exact this
theorem trodAll_carry {w w' : World} : ∀ {ts : List TypeId} {vs : List Value} {ds : List (DataW H)} {ps : List MemPlace}, DataW.TrodAll enc P w 0 (fun _ => true) true ts vs ds ps → (∀ p ∈ ps, w.sameAt w' p) → DataW.TrodAll enc P w' 0 (fun _ => true) true ts vs ds ps
  | [], [], [], _, h, _ => h
  | _ :: _, _ :: _, _ :: _, _, ⟨p, q, ⟨n, h1⟩, h2, e⟩, hs => by
    subst e
    exact ⟨p, q, ⟨n, DataW.trod_carry _ _ _ _ h1 (fun x hx => hs x (List.mem_append_left _ hx))⟩, trodAll_carry h2 (fun x hx => hs x (List.mem_append_right _ hx)), rfl⟩
  | [], _ :: _, _, _, h, _ => by simp [DataW.TrodAll] at h
  | [], [], _ :: _, _, h, _ => by simp [DataW.TrodAll] at h
  | _ :: _, [], _, _, h, _ => by simp [DataW.TrodAll] at h
  | _ :: _, _ :: _, [], _, h, _ => by simp [DataW.TrodAll] at h
theorem trodAll_len {w : World} : ∀ {ts : List TypeId} {vs : List Value} {ds : List (DataW H)} {ps : List MemPlace}, DataW.TrodAll enc P w 0 (fun _ => true) true ts vs ds ps → ds.length = ts.length
  | [], [], [], _, _ => rfl
  | _ :: _, _ :: _, _ :: _, _, ⟨_, _, _, h2, _⟩ => by simp [trodAll_len h2]
  | [], _ :: _, _, _, h => by simp [DataW.TrodAll] at h
  | [], [], _ :: _, _, h => by simp [DataW.TrodAll] at h
  | _ :: _, [], _, _, h => by simp [DataW.TrodAll] at h
  | _ :: _, _ :: _, [], _, h => by simp [DataW.TrodAll] at h
theorem law_contractU {C : Checked} {f : FuncId} {fn : Func} {s : ChangeSpec} {apart fresh handsOn again : Bool} {tb : TypeId}
    (hT : plainT C.prog T = true) (hTl : ∀ t ∈ T, t < C.prog.types.size) (hpar : ∀ t ∈ fn.params.toList, t ∈ T) (kids : Kids C.prog (· < C.prog.types.size))
    (full : ∀ t e, t < C.prog.types.size → C.prog.underlying t = some (.slice e) → 0 < C.prog.cellsOf e)
    (hvars : s.vars = []) (hs : ∀ ds : List (DataW H), ds.length = fn.params.size → s.fn H ds = { results := [.lit (.bool true)], args := ds })
    (hres : fn.resultTypes.toList = [tb]) (htb : C.prog.underlying tb = some .bool)
    (W : World) (base : Nat) (args : Array Value) (ds gs : List (DataW H)) (before : List MemPlace)
    {N : Nat} (spec : ∀ xs, ArgsOf C.prog fn.params.toList xs → ((∃ (U : DataW H → Nat) (UA : List (DataW H) → Nat), Bulk U UA ∧ UA (ds ++ gs) ≤ N) → bulkVs xs ≤ N) → Spec C.prog f xs (fun r => r = .bool true))
    (hval : ∀ (j : Nat) t v, fn.params[j]? = some t → args[j]? = some v → Value.okWide C.prog W .any base t v)
    (hW : DataW.Whole enc C.prog fn.params.toList s.vars apart W args.toList ds gs before) (hG : GlobB (Go.Abs.base W)) :
    Calls C.prog f args W fun e W' => ∃ v, e = .returned v ∧ s.post enc C.prog fn apart fresh handsOn again W args v W' := by
  have hW' := hW
  obtain ⟨p, q, hA, hV, rfl, hz, hn⟩ := hW
  have hV0 := hV
  rw [hvars] at hV
  obtain ⟨rfl, rfl⟩ : gs = [] ∧ q = [] := by
    cases gs with
    | nil => exact ⟨rfl, hV⟩
    | cons => exact hV.elim
  simp only [List.append_nil] at hW' hz hn
  obtain ⟨xs, hx, har, hbk⟩ := trodAll_args (Z := fun b => b.2 < W.heap.size) hT (fun b h => h) fn.params.toList args.toList ds p hpar (fun j t v h h' => hval j t v (by simpa using h) (by simpa using h')) hA
  refine ((spec xs hx (fun ⟨U, UA, hB, hle⟩ => Nat.le_trans (hbk U UA hB) (by simpa using hle))).2 W _ args hG (fun b h => h) har).mono ?_
  rintro e W' ⟨v, r, rfl, rfl, _, hrep⟩
  obtain ⟨κ, hi⟩ := hrep 0
  have hkept : Kept W W' := hi.kept
  have hv : v = .bool true := by
    have := hi.tmps 0
    simp only [if_pos, V.reg] at this
    have h2 : PRep W' (Zof (Go.Abs.base W) _ κ (tabOf 0 []) W') (.bool true) v := this.2
    cases h2; rfl
  subst hv
  refine ⟨_, rfl, ?_⟩
  have hsame : ∀ p' ∈ p, W.sameAt W' p' := by
    intro p' hp'
    have hlt := hA.lt p' hp'
    cases p' with
    | cell b off => exact World.cell?_of_block (hkept.block b hlt)
    | map b => exact hkept.block b hlt
  have again' : ∀ sp : Nat → Bool, (∀ p' ∈ p, sp p'.block = true) → DataW.TrodAll enc C.prog W' 0 sp true fn.params.toList args.toList ds p := by
    intro sp hsp
    exact (trodAll_carry hA hsame).respare kids full (fun t ht => hTl t (hpar t ht)) hsp
  have hlen : ds.length = fn.params.size := by
    have := trodAll_len hA
    simpa using this
  have hsf := hs (ds ++ []) (by simpa using hlen)
  have h1 : fn.resultTypes.size = 1 := by rw [← Array.length_toList, hres]; rfl
  have hold : ∀ p' ∈ p, (fun b => decide (b < W.heap.size)) p'.block = true := fun p' hp' => by simpa using hA.lt p' hp'
  have hrt : ∀ (b : Nat) (sp : Nat → Bool) (hd : Bool), DataW.TrodAll enc C.prog W' b sp hd fn.resultTypes.toList ((Value.bool true).resultList fn.resultTypes.size) (s.fn H (ds ++ [])).results [] := by
    intro b sp hd
    rw [hsf, hres, h1]
    exact trodAll_mk1 (shut_bool htb true)
  have hvt : ∀ sp : Nat → Bool, DataW.TrodVars enc C.prog W' sp s.vars (s.fn H (ds ++ [])).vars [] := by
    intro sp
    rw [hvars, hsf]; rfl
  have hat : ∀ sp : Nat → Bool, (∀ p' ∈ p, sp p'.block = true) → DataW.TrodAll enc C.prog W' 0 sp true fn.params.toList args.toList (s.fn H (ds ++ [])).args p := by
    intro sp hsp
    rw [hsf]
    simpa using again' sp hsp
  refine ⟨ds, [], p, [], p, [], hW', hrt _ _ _, hat _ hold, hvt _, kept_keptBut hkept _, fun _ => ⟨?_, .lit (.bool true) :: ds, [], p, ?_, fun p' hp' _ => hp'⟩⟩
  · intro j t r hj hv
    rw [h1] at hv
    have hj' : fn.resultTypes.toList[j]? = some t := by simpa using hj
    rw [hres] at hj'
    cases j with
    | zero =>
      simp [Value.resultList] at hj' hv
      subst hj'; subst hv
      exact okWide_bool_mk htb true
    | succ j => simp at hj'
  · refine ⟨p, [], ?_, by rw [hvars]; rfl, by simp, fun b off hp' => ?_, fun ha => by simpa using hn ha⟩
    · rw [hres, h1]
      refine ⟨[], p, shut_bool htb true, ?_, by simp⟩
      have := again' (fun _ => true) (fun _ _ => rfl)
      simpa using this
    · have hlt := hA.lt _ hp'
      have := hz b off hp'
      unfold World.frozen? at this ⊢
      have e := hkept.block b hlt
      simp only [] at this ⊢
      rw [e]; exact this
theorem law_contract {C : Checked} {f : FuncId} {fn : Func} {s : ChangeSpec} {apart fresh handsOn again : Bool} {tb : TypeId}
    (hT : plainT C.prog T = true) (hTl : ∀ t ∈ T, t < C.prog.types.size) (hpar : ∀ t ∈ fn.params.toList, t ∈ T) (kids : Kids C.prog (· < C.prog.types.size))
    (full : ∀ t e, t < C.prog.types.size → C.prog.underlying t = some (.slice e) → 0 < C.prog.cellsOf e)
    (hvars : s.vars = []) (hs : ∀ ds : List (DataW H), ds.length = fn.params.size → s.fn H ds = { results := [.lit (.bool true)], args := ds })
    (hres : fn.resultTypes.toList = [tb]) (htb : C.prog.underlying tb = some .bool)
    (spec : ∀ xs, ArgsOf C.prog fn.params.toList xs → Spec C.prog f xs (fun r => r = .bool true))
    (W : World) (base : Nat) (args : Array Value) (ds gs : List (DataW H)) (before : List MemPlace)
    (hval : ∀ (j : Nat) t v, fn.params[j]? = some t → args[j]? = some v → Value.okWide C.prog W .any base t v)
    (hW : DataW.Whole enc C.prog fn.params.toList s.vars apart W args.toList ds gs before) (hG : GlobB (Go.Abs.base W)) :
    Calls C.prog f args W fun e W' => ∃ v, e = .returned v ∧ s.post enc C.prog fn apart fresh handsOn again W args v W' :=
  law_contractU (N := 0) hT hTl hpar kids full hvars hs hres htb W base args ds gs before (fun xs hx _ => spec xs hx) hval hW hG
theorem law_lifted {C : Checked} {os : Os} {f : FuncId} {fn : Func} {s : ChangeSpec} {conds : List PathCond} {apart fresh handsOn again : Bool} {tb : TypeId}
    (own : ownKnob C.prog.godebug = none) (started : os.Started) (noInit : C.prog.inits.idxOf? f = none) (hfn : C.prog.funcs[f]? = some fn)
    (witness : ∃ (w : World) (tape : Tape) (i : Input), w.os = os ∧ (w.forCall tape i).Shaped C.prog ∧ i.vars = [] ∧ Input.okWide C.prog (w.forCall tape i) .any w.heap.size f i ∧
      s.pre6 enc C.prog fn conds apart (w.forCall tape i).memory i.args ∧ ({} : Assume).holds C.prog (lone (Frame.enter C.prog f i.args .normal) [] (w.forCall tape i)))
    (hT : plainT C.prog T = true) (hTl : ∀ t ∈ T, t < C.prog.types.size) (hpar : ∀ t ∈ fn.params.toList, t ∈ T) (kids : Kids C.prog (· < C.prog.types.size))
    (full : ∀ t e, t < C.prog.types.size → C.prog.underlying t = some (.slice e) → 0 < C.prog.cellsOf e)
    (hvars : s.vars = []) (hs : ∀ ds : List (DataW H), ds.length = fn.params.size → s.fn H ds = { results := [.lit (.bool true)], args := ds })
    (hres : fn.resultTypes.toList = [tb]) (htb : C.prog.underlying tb = some .bool)
    (hg : ∀ W, GlobB (Go.Abs.base W)) (spec : ∀ xs, ArgsOf C.prog fn.params.toList xs → Spec C.prog f xs (fun r => r = .bool true)) :
    ReturnsInHanded {} C os f .any (s.pre6 enc C.prog fn conds apart) (s.post enc C.prog fn apart fresh handsOn again) := by
  exact returnsInHanded_of_change own started noInit hfn witness fun W base args ds gs before hval hW _ _ =>
    law_contract hT hTl hpar kids full hvars hs hres htb spec W base args ds gs before hval hW (hg W)
end
end Go.Abs


set_option maxRecDepth 100000
namespace Go.Abs
open Go.Proofs
theorem uu {a b : AQ} (h : a = b) (P ts os Q) : awl P a Q ts os = awl P b Q ts os := h ▸ rfl
theorem vv {α : Type} {a b : α} (h : a = b) : a = b := h
def f10r1 : List AI := [⟨none, (.mov 2 (.v (.k (.c (.int .i64 0)))))⟩]
def f10b2 : AQ := (.seq (.region f10r1) .ret)
def f10r3 : List AI := [⟨none, (.bin 95 .add (.t 10) (.v (.k (.c (.int .i64 1)))))⟩, ⟨none, (.mov 10 (.t 95))⟩]
def f10r4 : List AI := [⟨none, (.mov 2 (.v (.k (.c (.int .i64 2)))))⟩]
def f10b5 : AQ := (.seq (.region f10r4) .ret)
def f10b6 : AQ := (.cond (.t 94) f10b5 .skip)
def f10r7 : List AI := [⟨none, (.faddr 64 5 (.t 4))⟩, ⟨none, (.load 65 1 false (.t 64))⟩, ⟨none, (.bin 66 .lss (.t 65) (.v (.k (.c (.int .i64 0)))))⟩, ⟨none, (.mov 67 (.t 66))⟩, ⟨(some (67, false)), (.faddr 68 5 (.t 4))⟩, ⟨(some (67, false)), (.load 69 1 false (.t 68))⟩, ⟨(some (67, false)), (.mov 70 (.t 3))⟩, ⟨(some (67, false)), (.bin 71 .geq (.t 69) (.t 70))⟩, ⟨none, (.pick 72 (.t 67) (.v (.k (.c (.bool true)))) (.t 71))⟩, ⟨none, (.mov 73 (.t 72))⟩, ⟨(some (73, false)), (.mov 74 (.t 0))⟩, ⟨(some (73, false)), (.faddr 75 5 (.t 4))⟩, ⟨(some (73, false)), (.load 76 1 false (.t 75))⟩, ⟨(some (73, false)), (.iaddr 77 6 (.t 74) (.t 76))⟩, ⟨(some (73, false)), (.faddr 78 1 (.t 77))⟩, ⟨(some (73, false)), (.load 79 1 false (.t 78))⟩, ⟨(some (73, false)), (.faddr 80 0 (.t 4))⟩, ⟨(some (73, false)), (.load 81 1 false (.t 80))⟩, ⟨(some (73, false)), (.bin 82 .neq (.t 79) (.t 81))⟩, ⟨none, (.pick 83 (.t 73) (.v (.k (.c (.bool true)))) (.t 82))⟩, ⟨none, (.mov 84 (.t 83))⟩, ⟨(some (84, false)), (.mov 85 (.t 0))⟩, ⟨(some (84, false)), (.faddr 86 5 (.t 4))⟩, ⟨(some (84, false)), (.load 87 1 false (.t 86))⟩, ⟨(some (84, false)), (.iaddr 88 6 (.t 85) (.t 87))⟩, ⟨(some (84, false)), (.faddr 89 4 (.t 88))⟩, ⟨(some (84, false)), (.load 90 1 false (.t 89))⟩, ⟨(some (84, false)), (.faddr 91 3 (.t 4))⟩, ⟨(some (84, false)), (.load 92 1 false (.t 91))⟩, ⟨(some (84, false)), (.bin 93 .lss (.t 90) (.t 92))⟩, ⟨none, (.pick 94 (.t 84) (.v (.k (.c (.bool true)))) (.t 93))⟩]
def f10b8 : AQ := (.seq (.draw f10r7 [[], [0], [1], [2], [3], [4, 3], [3], [5, 6, 3], [3, 7], [8, 3], [9], [9], [11, 9], [10, 12, 9], [13, 9], [14, 9], [9], [16, 9], [15, 17, 9], [9, 18], [19, 9], [20], [20], [22, 20], [21, 23, 20], [24, 20], [25, 20], [20], [27, 20], [26, 28, 20], [20, 29]]) f10b6)
def f10b9 : AQ := (.cond (.t 63) (.exit 1) .skip)
def f10r10 : List AI := [⟨none, (.faddr 61 5 (.t 4))⟩, ⟨none, (.load 62 1 false (.t 61))⟩, ⟨none, (.bin 63 .eql (.t 62) (.v (.k (.c (.int .i64 (-1))))))⟩]
def f10b11 : AQ := (.seq (.region f10r10) f10b9)
def f10b12 : AQ := (.seq f10b11 f10b8)
def f10r13 : List AI := [⟨none, (.mov 2 (.v (.k (.c (.int .i64 1)))))⟩]
def f10b14 : AQ := (.seq (.region f10r13) .ret)
def f10r15 : List AI := [⟨none, (.mov 2 (.v (.k (.c (.int .i64 13)))))⟩]
def f10b16 : AQ := (.seq (.region f10r15) .ret)
def f10b17 : AQ := (.cond (.t 43) f10b16 .skip)
def f10r18 : List AI := [⟨none, (.faddr 44 3 (.t 4))⟩, ⟨none, (.load 45 1 false (.t 44))⟩, ⟨none, (.call (some 46) 28 [(.t 45)])⟩, ⟨none, (.un 47 .not (.t 46))⟩, ⟨none, (.mov 48 (.t 47))⟩, ⟨(some (48, false)), (.faddr 49 4 (.t 4))⟩, ⟨(some (48, false)), (.load 50 1 false (.t 49))⟩, ⟨(some (48, false)), (.call (some 51) 28 [(.t 50)])⟩, ⟨(some (48, false)), (.un 52 .not (.t 51))⟩, ⟨none, (.pick 53 (.t 48) (.v (.k (.c (.bool true)))) (.t 52))⟩, ⟨none, (.mov 54 (.t 53))⟩, ⟨(some (54, false)), (.faddr 55 3 (.t 4))⟩, ⟨(some (54, false)), (.load 56 1 false (.t 55))⟩, ⟨(some (54, false)), (.faddr 57 4 (.t 4))⟩, ⟨(some (54, false)), (.load 58 1 false (.t 57))⟩, ⟨(some (54, false)), (.bin 59 .geq (.t 56) (.t 58))⟩, ⟨none, (.pick 60 (.t 54) (.v (.k (.c (.bool true)))) (.t 59))⟩, ⟨none, (.mov 43 (.t 60))⟩]
def f10b19 : AQ := (.seq (.region f10r18) f10b17)
def f10b20 : AQ := (.cond (.t 15) f10b14 f10b19)
def f10r21 : List AI := [⟨none, (.faddr 16 0 (.t 4))⟩, ⟨none, (.load 17 1 false (.t 16))⟩, ⟨none, (.call (some 18) 27 [(.t 17)])⟩, ⟨none, (.un 19 .not (.t 18))⟩, ⟨none, (.mov 20 (.t 19))⟩, ⟨(some (20, false)), (.faddr 21 1 (.t 4))⟩, ⟨(some (20, false)), (.load 22 1 false (.t 21))⟩, ⟨(some (20, false)), (.call (some 23) 27 [(.t 22)])⟩, ⟨(some (20, false)), (.un 24 .not (.t 23))⟩, ⟨none, (.pick 25 (.t 20) (.v (.k (.c (.bool true)))) (.t 24))⟩, ⟨none, (.mov 26 (.t 25))⟩, ⟨(some (26, false)), (.faddr 27 0 (.t 4))⟩, ⟨(some (26, false)), (.load 28 1 false (.t 27))⟩, ⟨(some (26, false)), (.faddr 29 1 (.t 4))⟩, ⟨(some (26, false)), (.load 30 1 false (.t 29))⟩, ⟨(some (26, false)), (.bin 31 .eql (.t 28) (.t 30))⟩, ⟨none, (.pick 32 (.t 26) (.v (.k (.c (.bool true)))) (.t 31))⟩, ⟨none, (.mov 33 (.t 32))⟩, ⟨(some (33, false)), (.faddr 34 2 (.t 4))⟩, ⟨(some (33, false)), (.load 35 1 false (.t 34))⟩, ⟨(some (33, false)), (.bin 36 .lss (.t 35) (.v (.k (.c (.int .i64 1)))))⟩, ⟨none, (.pick 37 (.t 33) (.v (.k (.c (.bool true)))) (.t 36))⟩, ⟨none, (.mov 38 (.t 37))⟩, ⟨(some (38, false)), (.faddr 39 2 (.t 4))⟩, ⟨(some (38, false)), (.load 40 1 false (.t 39))⟩, ⟨(some (38, false)), (.bin 41 .gtr (.t 40) (.v (.k (.c (.int .i64 1099511627776)))))⟩, ⟨none, (.pick 42 (.t 38) (.v (.k (.c (.bool true)))) (.t 41))⟩, ⟨none, (.mov 15 (.t 42))⟩]
def f10b22 : AQ := (.seq (.region f10r21) f10b20)
def f10b23 : AQ := (.block 2 f10b22)
def f10b24 : AQ := (.seq f10b23 f10b12)
def f10r25 : List AI := [⟨none, (.mov 12 (.t 10))⟩, ⟨none, (.iaddr 13 6 (.t 8) (.t 10))⟩, ⟨none, (.load 14 6 true (.t 13))⟩, ⟨none, (.alloc 4 40 [(.int .i64 0), (.int .i64 0), (.int .i64 0), (.int .i64 0), (.int .i64 0), (.int .i64 0)])⟩, ⟨none, (.mov 3 (.t 12))⟩, ⟨none, (.store 6 (.t 4) (.t 14))⟩]
def f10b26 : AQ := (.seq (.region f10r25) f10b24)
def f10b27 : AQ := (.block 1 f10b26)
def f10b28 : AQ := (.seq f10b27 (.region f10r3))
def f10b29 : AQ := (.cond (.t 11) .skip (.exit 0))
def f10b30 : AQ := (.seq f10b29 f10b28)
def f10r31 : List AI := [⟨none, (.bin 11 .lss (.t 10) (.t 9))⟩]
def f10b32 : AQ := (.seq (.region f10r31) f10b30)
def f10l33 : AQ := .loop [0, 8, 9, 10] [] f10b32
def f10b34 : AQ := (.block 0 f10l33)
def f10r35 : List AI := [⟨none, (.mov 8 (.t 0))⟩, ⟨none, (.len 9 (.t 8))⟩, ⟨none, (.mov 10 (.v (.k (.c (.int .i64 0)))))⟩]
def f10b36 : AQ := (.seq (.region f10r35) f10b34)
def f10b37 : AQ := (.seq f10b36 f10b2)
def f10r38 : List AI := [⟨none, (.mov 2 (.v (.k (.c (.int .i64 6)))))⟩]
def f10b39 : AQ := (.seq (.region f10r38) .ret)
def f10b40 : AQ := (.cond (.t 7) f10b39 .skip)
def f10r41 : List AI := [⟨none, (.mov 5 (.t 0))⟩, ⟨none, (.len 6 (.t 5))⟩, ⟨none, (.bin 7 .gtr (.t 6) (.v (.k (.c (.int .i64 100)))))⟩]
def f10b42 : AQ := (.seq (.region f10r41) f10b40)
def f10b43 : AQ := (.seq f10b42 f10b37)
def f10r44 : List AI := [⟨none, (.mov 2 (.v (.k (.c (.int .i64 0)))))⟩]
def f10b45 : AQ := (.seq (.region f10r44) f10b43)
def f10 : AQ := f10b45
theorem hf10 : cFunc Try.prog 10 = some ⟨96, f10.erase, [(RX.t 2)]⟩ := by kernel_rfl
theorem okf10 : f10.ok = true := by kernel_rfl
def f12r1 : List AI := [⟨none, (.mov 18 (.t 0))⟩, ⟨none, (.call (some 19) 29 [(.t 18)])⟩, ⟨none, (.mov 20 (.t 1))⟩, ⟨none, (.iaddr 21 1 (.t 19) (.t 20))⟩, ⟨none, (.load 22 1 false (.t 21))⟩, ⟨none, (.mov 4 (.t 22))⟩]
def f12b2 : AQ := (.seq (.region f12r1) (.frz 19 .ret))
def f12r3 : List AI := [⟨none, (.mov 4 (.v (.k (.c (.int .i64 0)))))⟩]
def f12b4 : AQ := (.seq (.region f12r3) .ret)
def f12b5 : AQ := (.cond (.t 17) f12b4 .skip)
def f12r6 : List AI := [⟨none, (.mov 5 (.t 0))⟩, ⟨none, (.call (some 6) 10 [(.t 5)])⟩, ⟨none, (.bin 7 .neq (.t 6) (.v (.k (.c (.int .i64 0)))))⟩, ⟨none, (.mov 8 (.t 7))⟩, ⟨(some (8, false)), (.mov 9 (.t 1))⟩, ⟨(some (8, false)), (.bin 10 .lss (.t 9) (.v (.k (.c (.int .i64 0)))))⟩, ⟨none, (.pick 11 (.t 8) (.v (.k (.c (.bool true)))) (.t 10))⟩, ⟨none, (.mov 12 (.t 11))⟩, ⟨(some (12, false)), (.mov 13 (.t 1))⟩, ⟨(some (12, false)), (.mov 14 (.t 0))⟩, ⟨(some (12, false)), (.len 15 (.t 14))⟩, ⟨(some (12, false)), (.bin 16 .geq (.t 13) (.t 15))⟩, ⟨none, (.pick 17 (.t 12) (.v (.k (.c (.bool true)))) (.t 16))⟩]
def f12b7 : AQ := (.seq (.region f12r6) f12b5)
def f12b8 : AQ := (.seq f12b7 f12b2)
def f12r9 : List AI := [⟨none, (.mov 4 (.v (.k (.c (.int .i64 0)))))⟩]
def f12b10 : AQ := (.seq (.region f12r9) f12b8)
def f12 : AQ := f12b10
theorem hf12 : cFunc Try.prog 12 = some ⟨23, f12.erase, [(RX.t 4)]⟩ := by kernel_rfl
theorem okf12 : f12.ok = true := by kernel_rfl
def f14r1 : List AI := [⟨none, (.mov 4 (.v (.k (.c (.bool true)))))⟩]
def f14b2 : AQ := (.seq (.region f14r1) .ret)
def f14r3 : List AI := [⟨none, (.mov 15 (.t 5))⟩, ⟨none, (.bin 16 .add (.t 15) (.v (.k (.c (.int .i64 1)))))⟩, ⟨none, (.mov 5 (.t 16))⟩]
def f14r4 : List AI := [⟨none, (.mov 4 (.v (.k (.c (.bool false)))))⟩]
def f14b5 : AQ := (.seq (.region f14r4) .ret)
def f14b6 : AQ := (.cond (.t 26) f14b5 .skip)
def f14r7 : List AI := [⟨none, (.mov 17 (.t 0))⟩, ⟨none, (.mov 18 (.t 5))⟩, ⟨none, (.iaddr 19 3 (.t 17) (.t 18))⟩, ⟨none, (.load 20 3 true (.t 19))⟩, ⟨none, (.mov 21 (.t 1))⟩, ⟨none, (.mov 22 (.t 5))⟩, ⟨none, (.iaddr 23 3 (.t 21) (.t 22))⟩, ⟨none, (.load 24 3 true (.t 23))⟩, ⟨none, (.call (some 25) 30 [(.t 20), (.t 24)])⟩, ⟨none, (.un 26 .not (.t 25))⟩]
def f14b8 : AQ := (.seq (.draw f14r7 [[], [], [0, 1], [2], [], [], [4, 5], [6], [3, 7], [8]]) f14b6)
def f14b9 : AQ := (.block 1 f14b8)
def f14b10 : AQ := (.seq f14b9 (.region f14r3))
def f14b11 : AQ := (.cond (.t 14) .skip (.exit 0))
def f14r12 : List AI := [⟨none, (.mov 11 (.t 5))⟩, ⟨none, (.mov 12 (.t 0))⟩, ⟨none, (.len 13 (.t 12))⟩, ⟨none, (.bin 14 .lss (.t 11) (.t 13))⟩]
def f14b13 : AQ := (.seq (.region f14r12) f14b11)
def f14b14 : AQ := (.seq f14b13 f14b10)
def f14l15 : AQ := .loop [0, 1, 5] [] f14b14
def f14b16 : AQ := (.block 0 f14l15)
def f14r17 : List AI := [⟨none, (.mov 5 (.v (.k (.c (.int .i64 0)))))⟩]
def f14b18 : AQ := (.seq (.region f14r17) f14b16)
def f14b19 : AQ := (.seq f14b18 f14b2)
def f14r20 : List AI := [⟨none, (.mov 4 (.v (.k (.c (.bool false)))))⟩]
def f14b21 : AQ := (.seq (.region f14r20) .ret)
def f14b22 : AQ := (.cond (.t 10) f14b21 .skip)
def f14r23 : List AI := [⟨none, (.mov 6 (.t 0))⟩, ⟨none, (.len 7 (.t 6))⟩, ⟨none, (.mov 8 (.t 1))⟩, ⟨none, (.len 9 (.t 8))⟩, ⟨none, (.bin 10 .neq (.t 7) (.t 9))⟩]
def f14b24 : AQ := (.seq (.region f14r23) f14b22)
def f14b25 : AQ := (.seq f14b24 f14b19)
def f14r26 : List AI := [⟨none, (.mov 4 (.v (.k (.c (.bool false)))))⟩]
def f14b27 : AQ := (.seq (.region f14r26) f14b25)
def f14 : AQ := f14b27
theorem hf14 : cFunc Try.prog 14 = some ⟨27, f14.erase, [(RX.t 4)]⟩ := by kernel_rfl
theorem okf14 : f14.ok = true := by kernel_rfl
def f15r1 : List AI := [⟨none, (.mov 98 (.t 5))⟩, ⟨none, (.mov 2 (.t 98))⟩]
def f15b2 : AQ := (.seq (.region f15r1) .ret)
def f15r3 : List AI := [⟨none, (.mov 96 (.t 5))⟩, ⟨none, (.call (some 97) 32 [(.t 96), (.v (.k (.c (.fn 33 []))))])⟩]
def f15b4 : AQ := (.seq (.region f15r3) f15b2)
def f15r5 : List AI := [⟨none, (.bin 95 .add (.t 22) (.v (.k (.c (.int .i64 1)))))⟩, ⟨none, (.mov 22 (.t 95))⟩]
def f15r6 : List AI := [⟨none, (.mov 91 (.t 5))⟩, ⟨none, (.load 92 3 true (.t 8))⟩, ⟨none, (.bslice 93 25 3 [(.list 0 (some true) []), (.list 0 (some true) []), (.int .i64 0)] 1 [(0, (.t 92))])⟩, ⟨none, (.append 94 25 3 56 (.t 91) (.t 93))⟩, ⟨none, (.mov 5 (.t 94))⟩]
def f15b7 : AQ := (.cond (.t 90) (.region f15r6) .skip)
def f15r8 : List AI := [⟨none, (.mov 90 (.t 9))⟩]
def f15b9 : AQ := (.seq (.region f15r8) f15b7)
def f15r10 : List AI := [⟨none, (.bin 89 .add (.t 43) (.v (.k (.c (.int .i64 1)))))⟩, ⟨none, (.mov 43 (.t 89))⟩]
def f15r11 : List AI := [⟨none, (.faddr 81 2 (.t 8))⟩, ⟨none, (.load 82 1 false (.t 81))⟩, ⟨none, (.mov 83 (.t 3))⟩, ⟨none, (.mov 84 (.t 11))⟩, ⟨none, (.iaddr 85 1 (.t 83) (.t 84))⟩, ⟨none, (.load 86 1 false (.t 85))⟩, ⟨none, (.bin 87 .add (.t 82) (.t 86))⟩, ⟨none, (.faddr 88 2 (.t 8))⟩, ⟨none, (.store 1 (.t 88) (.t 87))⟩]
def f15b12 : AQ := (.cond (.t 80) (.draw f15r11 [[], [0], [], [], [2, 3], [4], [1, 5], [0, 1, 2, 3, 4, 5, 6], [7, 6, 0, 1, 2, 3, 4, 5, 6]]) .skip)
def f15r13 : List AI := [⟨none, (.mov 76 (.t 10))⟩, ⟨none, (.mov 77 (.t 7))⟩, ⟨none, (.len 78 (.t 77))⟩, ⟨none, (.bin 79 .sub (.t 78) (.v (.k (.c (.int .i64 1)))))⟩, ⟨none, (.bin 80 .lss (.t 76) (.t 79))⟩]
def f15b14 : AQ := (.seq (.region f15r13) f15b12)
def f15r15 : List AI := [⟨none, (.faddr 66 1 (.t 8))⟩, ⟨none, (.load 67 1 false (.t 66))⟩, ⟨none, (.mov 68 (.t 0))⟩, ⟨none, (.mov 69 (.t 11))⟩, ⟨none, (.iaddr 70 6 (.t 68) (.t 69))⟩, ⟨none, (.faddr 71 0 (.t 70))⟩, ⟨none, (.load 72 1 false (.t 71))⟩, ⟨none, (.bslice 73 3 1 [(.int .i64 0)] 1 [(0, (.t 72))])⟩, ⟨none, (.append 74 3 1 8 (.t 67) (.t 73))⟩, ⟨none, (.faddr 75 1 (.t 8))⟩, ⟨none, (.store 1 (.t 75) (.t 74))⟩]
def f15b16 : AQ := (.seq (.draw f15r15 [[], [0], [], [], [2, 3], [4], [5], [6], [1, 7], [0, 1, 2, 3, 4, 5, 6, 7, 8], [9, 8, 8, 0, 1, 2, 3, 4, 5, 6, 7, 8]]) f15b14)
def f15r17 : List AI := [⟨none, (.mov 48 (.t 9))⟩, ⟨none, (.mov 49 (.t 48))⟩, ⟨(some (49, true)), (.mov 50 (.t 10))⟩, ⟨(some (49, true)), (.mov 51 (.t 7))⟩, ⟨(some (49, true)), (.len 52 (.t 51))⟩, ⟨(some (49, true)), (.bin 53 .sub (.t 52) (.v (.k (.c (.int .i64 1)))))⟩, ⟨(some (49, true)), (.bin 54 .eql (.t 50) (.t 53))⟩, ⟨(some (49, true)), (.mov 55 (.t 54))⟩, ⟨(some (55, false)), (.mov 56 (.t 4))⟩, ⟨(some (55, false)), (.mov 57 (.t 11))⟩, ⟨(some (55, false)), (.iaddr 58 1 (.t 56) (.t 57))⟩, ⟨(some (55, false)), (.load 59 1 false (.t 58))⟩, ⟨(some (55, false)), (.mov 60 (.t 7))⟩, ⟨(some (55, false)), (.iaddr 61 1 (.t 60) (.v (.k (.c (.int .i64 0)))))⟩, ⟨(some (55, false)), (.load 62 1 false (.t 61))⟩, ⟨(some (55, false)), (.bin 63 .lss (.t 59) (.t 62))⟩, ⟨(some (49, true)), (.pick 64 (.t 55) (.v (.k (.c (.bool true)))) (.t 63))⟩, ⟨none, (.pick 65 (.t 49) (.t 64) (.v (.k (.c (.bool false)))))⟩, ⟨none, (.mov 9 (.t 65))⟩]
def f15b18 : AQ := (.seq (.draw f15r17 [[], [0], [1], [1], [3, 1], [4, 1], [2, 5, 1], [6, 1, 1], [7], [7], [8, 9, 7], [10, 7], [7], [12, 7], [13, 7], [11, 14, 7], [7, 15, 1], [1, 16], [17, 7, 0, 1, 2, 3, 4, 5, 6, 7, 8, 9, 10, 11, 12, 13, 14, 15, 16, 17]]) f15b16)
def f15r19 : List AI := [⟨none, (.mov 45 (.t 43))⟩, ⟨none, (.iaddr 46 1 (.t 41) (.t 43))⟩, ⟨none, (.load 47 1 false (.t 46))⟩, ⟨none, (.mov 10 (.t 45))⟩, ⟨none, (.mov 11 (.t 47))⟩]
def f15b20 : AQ := (.seq (.region f15r19) f15b18)
def f15b21 : AQ := (.block 3 f15b20)
def f15b22 : AQ := (.seq f15b21 (.region f15r10))
def f15b23 : AQ := (.cond (.t 44) .skip (.exit 2))
def f15b24 : AQ := (.seq f15b23 f15b22)
def f15r25 : List AI := [⟨none, (.bin 44 .lss (.t 43) (.t 42))⟩]
def f15b26 : AQ := (.seq (.region f15r25) f15b24)
def f15l27 : AQ := .loop [0, 3, 4, 5, 7, 8, 9, 21, 22, 41, 42, 43] [5, 8, 16, 19, 27, 74, 94, 17000, 17001, 17002, 28000, 28001, 28002] f15b26
def f15b28 : AQ := (.block 2 f15l27)
def f15r29 : List AI := [⟨none, (.mov 41 (.t 7))⟩, ⟨none, (.len 42 (.t 41))⟩, ⟨none, (.mov 43 (.v (.k (.c (.int .i64 0)))))⟩]
def f15b30 : AQ := (.seq (.region f15r29) f15b28)
def f15b31 : AQ := (.seq f15b30 (.frz 74 f15b9))
def f15r32 : List AI := [⟨none, (.mov 9 (.v (.k (.c (.bool true)))))⟩]
def f15b33 : AQ := (.seq (.region f15r32) f15b31)
def f15r34 : List AI := [⟨none, (.mov 39 (.t 7))⟩, ⟨none, (.build 40 [(.list 0 (some true) []), (.list 0 (some true) []), (.int .i64 0)] [(0, (1, (.t 39)))])⟩, ⟨none, (.alloc 8 25 [(.list 0 (some true) []), (.list 0 (some true) []), (.int .i64 0)])⟩, ⟨none, (.store 3 (.t 8) (.t 40))⟩]
def f15b35 : AQ := (.seq (.region f15r34) f15b33)
def f15r36 : List AI := [⟨none, (.mov 33 (.t 4))⟩, ⟨none, (.mov 34 (.t 6))⟩, ⟨none, (.mov 35 (.t 7))⟩, ⟨none, (.iaddr 36 1 (.t 35) (.v (.k (.c (.int .i64 0)))))⟩, ⟨none, (.load 37 1 false (.t 36))⟩, ⟨none, (.iaddr 38 1 (.t 33) (.t 34))⟩, ⟨none, (.store 1 (.t 38) (.t 37))⟩]
def f15b37 : AQ := (.seq (.region f15r36) f15b35)
def f15b38 : AQ := (.cond (.t 32) (.exit 1) .skip)
def f15r39 : List AI := [⟨none, (.mov 31 (.t 7))⟩, ⟨none, (.nilcmp 32 false (.t 31))⟩]
def f15b40 : AQ := (.seq (.region f15r39) f15b38)
def f15b41 : AQ := (.seq f15b40 f15b37)
def f15r42 : List AI := [⟨none, (.mov 28 (.t 4))⟩, ⟨none, (.mov 29 (.t 6))⟩, ⟨none, (.iaddr 30 1 (.t 28) (.t 29))⟩, ⟨none, (.store 1 (.t 30) (.v (.k (.c (.int .i64 (-1))))))⟩]
def f15b43 : AQ := (.seq (.region f15r42) f15b41)
def f15r44 : List AI := [⟨none, (.mov 25 (.t 0))⟩, ⟨none, (.mov 26 (.t 6))⟩, ⟨none, (.call (some 27) 31 [(.t 25), (.t 26)])⟩, ⟨none, (.mov 7 (.t 27))⟩]
def f15b45 : AQ := (.seq (.region f15r44) (.frz 27 f15b43))
def f15r46 : List AI := [⟨none, (.mov 24 (.t 22))⟩, ⟨none, (.mov 6 (.t 24))⟩]
def f15b47 : AQ := (.seq (.region f15r46) f15b45)
def f15b48 : AQ := (.block 1 f15b47)
def f15b49 : AQ := (.seq f15b48 (.region f15r5))
def f15b50 : AQ := (.cond (.t 23) .skip (.exit 0))
def f15b51 : AQ := (.seq f15b50 f15b49)
def f15r52 : List AI := [⟨none, (.bin 23 .lss (.t 22) (.t 21))⟩]
def f15b53 : AQ := (.seq (.region f15r52) f15b51)
def f15l54 : AQ := .loop [0, 3, 4, 5, 21, 22] [5, 16, 19, 94, 17000, 17001, 17002] f15b53
def f15b55 : AQ := (.block 0 f15l54)
def f15r56 : List AI := [⟨none, (.mov 20 (.t 0))⟩, ⟨none, (.len 21 (.t 20))⟩, ⟨none, (.mov 22 (.v (.k (.c (.int .i64 0)))))⟩]
def f15b57 : AQ := (.seq (.region f15r56) f15b55)
def f15b58 : AQ := (.seq f15b57 f15b4)
def f15r59 : List AI := [⟨none, (.nilL 5 25 3)⟩]
def f15b60 : AQ := (.seq (.region f15r59) f15b58)
def f15r61 : List AI := [⟨none, (.mov 17 (.t 0))⟩, ⟨none, (.len 18 (.t 17))⟩, ⟨none, (.mkslice 19 3 1 8 [(.int .i64 0)] (.t 18) (.t 18))⟩, ⟨none, (.mov 4 (.t 19))⟩]
def f15b62 : AQ := (.seq (.region f15r61) f15b60)
def f15r63 : List AI := [⟨none, (.mov 15 (.t 0))⟩, ⟨none, (.call (some 16) 29 [(.t 15)])⟩, ⟨none, (.mov 3 (.t 16))⟩]
def f15b64 : AQ := (.seq (.region f15r63) (.frz 16 f15b62))
def f15r65 : List AI := [⟨none, (.nilL 2 25 3)⟩]
def f15b66 : AQ := (.seq (.region f15r65) .ret)
def f15b67 : AQ := (.cond (.t 14) f15b66 .skip)
def f15r68 : List AI := [⟨none, (.mov 12 (.t 0))⟩, ⟨none, (.call (some 13) 10 [(.t 12)])⟩, ⟨none, (.bin 14 .neq (.t 13) (.v (.k (.c (.int .i64 0)))))⟩]
def f15b69 : AQ := (.seq (.region f15r68) f15b67)
def f15b70 : AQ := (.seq f15b69 f15b64)
def f15r71 : List AI := [⟨none, (.nilL 2 25 3)⟩]
def f15b72 : AQ := (.seq (.region f15r71) f15b70)
def f15 : AQ := f15b72
theorem hf15 : cFunc Try.prog 15 = some ⟨99, f15.erase, [(RX.t 2)]⟩ := by kernel_rfl
theorem okf15 : f15.ok = true := by kernel_rfl
def f17r1 : List AI := [⟨none, (.mov 5 (.t 0))⟩, ⟨none, (.call (some 6) 15 [(.t 5)])⟩, ⟨none, (.mkfn 7 39 [(.t 3)])⟩, ⟨none, (.call (some 8) 38 [(.t 6), (.t 7)])⟩, ⟨none, (.mov 4 (.t 8))⟩]
def f17b2 : AQ := (.seq (.region f17r1) .ret)
def f17r3 : List AI := [⟨none, (.box 3 25 (.t 1))⟩, ⟨none, (.mov 4 (.v (.k (.c (.bool false)))))⟩]
def f17b4 : AQ := (.seq (.region f17r3) f17b2)
def f17 : AQ := f17b4
theorem hf17 : cFunc Try.prog 17 = some ⟨9, f17.erase, [(RX.t 4)]⟩ := by kernel_rfl
theorem okf17 : f17.ok = true := by kernel_rfl
def f19r1 : List AI := [⟨none, (.mov 4 (.v (.k (.c (.bool true)))))⟩]
def f19b2 : AQ := (.seq (.region f19r1) .ret)
def f19r3 : List AI := [⟨none, (.mov 15 (.t 5))⟩, ⟨none, (.bin 16 .add (.t 15) (.v (.k (.c (.int .i64 1)))))⟩, ⟨none, (.mov 5 (.t 16))⟩]
def f19r4 : List AI := [⟨none, (.mov 4 (.v (.k (.c (.bool false)))))⟩]
def f19b5 : AQ := (.seq (.region f19r4) .ret)
def f19b6 : AQ := (.cond (.t 25) f19b5 .skip)
def f19r7 : List AI := [⟨none, (.mov 17 (.t 0))⟩, ⟨none, (.mov 18 (.t 5))⟩, ⟨none, (.iaddr 19 1 (.t 17) (.t 18))⟩, ⟨none, (.load 20 1 false (.t 19))⟩, ⟨none, (.mov 21 (.t 1))⟩, ⟨none, (.mov 22 (.t 5))⟩, ⟨none, (.iaddr 23 1 (.t 21) (.t 22))⟩, ⟨none, (.load 24 1 false (.t 23))⟩, ⟨none, (.bin 25 .neq (.t 20) (.t 24))⟩]
def f19b8 : AQ := (.seq (.draw f19r7 [[], [], [0, 1], [2], [], [], [4, 5], [6], [3, 7]]) f19b6)
def f19b9 : AQ := (.block 1 f19b8)
def f19b10 : AQ := (.seq f19b9 (.region f19r3))
def f19b11 : AQ := (.cond (.t 14) .skip (.exit 0))
def f19r12 : List AI := [⟨none, (.mov 11 (.t 5))⟩, ⟨none, (.mov 12 (.t 0))⟩, ⟨none, (.len 13 (.t 12))⟩, ⟨none, (.bin 14 .lss (.t 11) (.t 13))⟩]
def f19b13 : AQ := (.seq (.region f19r12) f19b11)
def f19b14 : AQ := (.seq f19b13 f19b10)
def f19l15 : AQ := .loop [0, 1, 5] [] f19b14
def f19b16 : AQ := (.block 0 f19l15)
def f19r17 : List AI := [⟨none, (.mov 5 (.v (.k (.c (.int .i64 0)))))⟩]
def f19b18 : AQ := (.seq (.region f19r17) f19b16)
def f19b19 : AQ := (.seq f19b18 f19b2)
def f19r20 : List AI := [⟨none, (.mov 4 (.v (.k (.c (.bool false)))))⟩]
def f19b21 : AQ := (.seq (.region f19r20) .ret)
def f19b22 : AQ := (.cond (.t 10) f19b21 .skip)
def f19r23 : List AI := [⟨none, (.mov 6 (.t 0))⟩, ⟨none, (.len 7 (.t 6))⟩, ⟨none, (.mov 8 (.t 1))⟩, ⟨none, (.len 9 (.t 8))⟩, ⟨none, (.bin 10 .neq (.t 7) (.t 9))⟩]
def f19b24 : AQ := (.seq (.region f19r23) f19b22)
def f19b25 : AQ := (.seq f19b24 f19b19)
def f19r26 : List AI := [⟨none, (.mov 4 (.v (.k (.c (.bool false)))))⟩]
def f19b27 : AQ := (.seq (.region f19r26) f19b25)
def f19 : AQ := f19b27
theorem hf19 : cFunc Try.prog 19 = some ⟨26, f19.erase, [(RX.t 4)]⟩ := by kernel_rfl
theorem okf19 : f19.ok = true := by kernel_rfl
def f20r1 : List AI := [⟨none, (.mov 24 (.t 3))⟩, ⟨none, (.call (some 25) 41 [(.v (.k (.c (.int .i64 200)))), (.t 24)])⟩, ⟨none, (.mov 2 (.t 25))⟩]
def f20b2 : AQ := (.seq (.region f20r1) (.frz 25 .ret))
def f20r3 : List AI := [⟨none, (.bin 23 .add (.t 11) (.v (.k (.c (.int .i64 1)))))⟩, ⟨none, (.mov 11 (.t 23))⟩]
def f20r4 : List AI := [⟨none, (.mov 15 (.t 3))⟩, ⟨none, (.faddr 16 0 (.t 5))⟩, ⟨none, (.load 17 1 false (.t 16))⟩, ⟨none, (.faddr 18 1 (.t 5))⟩, ⟨none, (.load 19 1 false (.t 18))⟩, ⟨none, (.build 20 [(.int .i64 0), (.int .i64 0)] [(0, (1, (.t 17))), (1, (1, (.t 19)))])⟩, ⟨none, (.bslice 21 59 2 [(.int .i64 0), (.int .i64 0)] 1 [(0, (.t 20))])⟩, ⟨none, (.append 22 59 2 16 (.t 15) (.t 21))⟩, ⟨none, (.mov 3 (.t 22))⟩]
def f20r5 : List AI := [⟨none, (.iaddr 13 6 (.t 9) (.t 11))⟩, ⟨none, (.load 14 6 true (.t 13))⟩, ⟨none, (.alloc 5 40 [(.int .i64 0), (.int .i64 0), (.int .i64 0), (.int .i64 0), (.int .i64 0), (.int .i64 0)])⟩, ⟨none, (.store 6 (.t 5) (.t 14))⟩]
def f20b6 : AQ := (.seq (.region f20r5) (.region f20r4))
def f20b7 : AQ := (.block 1 f20b6)
def f20b8 : AQ := (.seq f20b7 (.region f20r3))
def f20b9 : AQ := (.cond (.t 12) .skip (.exit 0))
def f20b10 : AQ := (.seq f20b9 f20b8)
def f20r11 : List AI := [⟨none, (.bin 12 .lss (.t 11) (.t 10))⟩]
def f20b12 : AQ := (.seq (.region f20r11) f20b10)
def f20l13 : AQ := .loop [3, 9, 10, 11] [3, 22] f20b12
def f20b14 : AQ := (.block 0 f20l13)
def f20r15 : List AI := [⟨none, (.mov 9 (.t 0))⟩, ⟨none, (.len 10 (.t 9))⟩, ⟨none, (.mov 11 (.v (.k (.c (.int .i64 0)))))⟩]
def f20b16 : AQ := (.seq (.region f20r15) f20b14)
def f20b17 : AQ := (.seq f20b16 f20b2)
def f20r18 : List AI := [⟨none, (.nilL 3 59 2)⟩]
def f20b19 : AQ := (.seq (.region f20r18) f20b17)
def f20r20 : List AI := [⟨none, (.nilL 2 3 1)⟩]
def f20b21 : AQ := (.seq (.region f20r20) .ret)
def f20b22 : AQ := (.cond (.t 8) f20b21 .skip)
def f20r23 : List AI := [⟨none, (.mov 6 (.t 0))⟩, ⟨none, (.call (some 7) 10 [(.t 6)])⟩, ⟨none, (.bin 8 .neq (.t 7) (.v (.k (.c (.int .i64 0)))))⟩]
def f20b24 : AQ := (.seq (.region f20r23) f20b22)
def f20b25 : AQ := (.seq f20b24 f20b19)
def f20r26 : List AI := [⟨none, (.nilL 2 3 1)⟩]
def f20b27 : AQ := (.seq (.region f20r26) f20b25)
def f20 : AQ := f20b27
theorem hf20 : cFunc Try.prog 20 = some ⟨26, f20.erase, [(RX.t 2)]⟩ := by kernel_rfl
theorem okf20 : f20.ok = true := by kernel_rfl
def f21r1 : List AI := [⟨none, (.mov 28 (.t 3))⟩, ⟨none, (.mov 29 (.t 0))⟩, ⟨none, (.call (some 30) 24 [(.t 29)])⟩, ⟨none, (.call (some 31) 42 [(.t 28), (.t 30)])⟩, ⟨none, (.mov 2 (.t 31))⟩]
def f21b2 : AQ := (.seq (.region f21r1) .ret)
def f21r3 : List AI := [⟨none, (.mov 12 (.t 4))⟩, ⟨none, (.bin 13 .add (.t 12) (.v (.k (.c (.int .i64 1)))))⟩, ⟨none, (.mov 4 (.t 13))⟩]
def f21r4 : List AI := [⟨none, (.mov 14 (.t 3))⟩, ⟨none, (.mov 15 (.t 0))⟩, ⟨none, (.mov 16 (.t 4))⟩, ⟨none, (.iaddr 17 6 (.t 15) (.t 16))⟩, ⟨none, (.faddr 18 0 (.t 17))⟩, ⟨none, (.load 19 1 false (.t 18))⟩, ⟨none, (.mov 20 (.t 0))⟩, ⟨none, (.mov 21 (.t 4))⟩, ⟨none, (.iaddr 22 6 (.t 20) (.t 21))⟩, ⟨none, (.faddr 23 1 (.t 22))⟩, ⟨none, (.load 24 1 false (.t 23))⟩, ⟨none, (.minmax 25 true (.t 19) [(.t 24)])⟩, ⟨none, (.bin 26 .add (.t 25) (.v (.k (.c (.int .i64 1)))))⟩, ⟨none, (.minmax 27 true (.t 14) [(.t 26)])⟩, ⟨none, (.mov 3 (.t 27))⟩]
def f21b5 : AQ := (.block 1 (.draw f21r4 [[], [], [], [1, 2], [3], [4], [], [], [6, 7], [8], [9], [5, 10], [11], [0, 12], [13, 0, 1, 2, 3, 4, 5, 6, 7, 8, 9, 10, 11, 12, 13]]))
def f21b6 : AQ := (.seq f21b5 (.region f21r3))
def f21b7 : AQ := (.cond (.t 11) .skip (.exit 0))
def f21r8 : List AI := [⟨none, (.mov 8 (.t 4))⟩, ⟨none, (.mov 9 (.t 0))⟩, ⟨none, (.len 10 (.t 9))⟩, ⟨none, (.bin 11 .lss (.t 8) (.t 10))⟩]
def f21b9 : AQ := (.seq (.region f21r8) f21b7)
def f21b10 : AQ := (.seq f21b9 f21b6)
def f21l11 : AQ := .loop [0, 3, 4] [] f21b10
def f21b12 : AQ := (.block 0 f21l11)
def f21r13 : List AI := [⟨none, (.mov 4 (.v (.k (.c (.int .i64 0)))))⟩]
def f21b14 : AQ := (.seq (.region f21r13) f21b12)
def f21b15 : AQ := (.seq f21b14 f21b2)
def f21r16 : List AI := [⟨none, (.mov 3 (.v (.k (.c (.int .i64 0)))))⟩]
def f21b17 : AQ := (.seq (.region f21r16) f21b15)
def f21r18 : List AI := [⟨none, (.nilL 2 3 1)⟩]
def f21b19 : AQ := (.seq (.region f21r18) .ret)
def f21b20 : AQ := (.cond (.t 7) f21b19 .skip)
def f21r21 : List AI := [⟨none, (.mov 5 (.t 0))⟩, ⟨none, (.call (some 6) 11 [(.t 5)])⟩, ⟨none, (.bin 7 .neq (.t 6) (.v (.k (.c (.int .i64 0)))))⟩]
def f21b22 : AQ := (.seq (.region f21r21) f21b20)
def f21b23 : AQ := (.seq f21b22 f21b17)
def f21r24 : List AI := [⟨none, (.nilL 2 3 1)⟩]
def f21b25 : AQ := (.seq (.region f21r24) f21b23)
def f21 : AQ := f21b25
def f22r1 : List AI := [⟨none, (.mov 46 (.t 1))⟩, ⟨none, (.len 47 (.t 46))⟩, ⟨none, (.bin 48 .gtr (.t 47) (.v (.k (.c (.int .i64 1)))))⟩, ⟨none, (.mov 49 (.t 48))⟩, ⟨(some (49, true)), (.mov 50 (.t 0))⟩, ⟨(some (49, true)), (.mov 51 (.t 1))⟩, ⟨(some (49, true)), (.mov 52 (.t 1))⟩, ⟨(some (49, true)), (.len 53 (.t 52))⟩, ⟨(some (49, true)), (.bin 54 .sub (.t 53) (.v (.k (.c (.int .i64 1)))))⟩, ⟨(some (49, true)), (.iaddr 55 1 (.t 51) (.t 54))⟩, ⟨(some (49, true)), (.load 56 1 false (.t 55))⟩, ⟨(some (49, true)), (.iaddr 57 6 (.t 50) (.t 56))⟩, ⟨(some (49, true)), (.faddr 58 1 (.t 57))⟩, ⟨(some (49, true)), (.load 59 1 false (.t 58))⟩, ⟨(some (49, true)), (.mov 60 (.t 0))⟩, ⟨(some (49, true)), (.mov 61 (.t 1))⟩, ⟨(some (49, true)), (.iaddr 62 1 (.t 61) (.v (.k (.c (.int .i64 0)))))⟩, ⟨(some (49, true)), (.load 63 1 false (.t 62))⟩, ⟨(some (49, true)), (.iaddr 64 6 (.t 60) (.t 63))⟩, ⟨(some (49, true)), (.faddr 65 0 (.t 64))⟩, ⟨(some (49, true)), (.load 66 1 false (.t 65))⟩, ⟨(some (49, true)), (.bin 67 .eql (.t 59) (.t 66))⟩, ⟨none, (.pick 68 (.t 49) (.t 67) (.v (.k (.c (.bool false)))))⟩, ⟨none, (.mov 4 (.t 68))⟩]
def f22b2 : AQ := (.seq (.draw f22r1 [[], [0], [1], [2], [3], [3], [3], [6, 3], [7, 3], [5, 8, 3], [9, 3], [4, 10, 3], [11, 3], [12, 3], [3], [3], [15, 3], [16, 3], [14, 17, 3], [18, 3], [19, 3], [13, 20, 3], [3, 21], [22, 3, 0, 1, 2, 3, 4, 5, 6, 7, 8, 9, 10, 11, 12, 13, 14, 15, 16, 17, 18, 19, 20, 21, 22]]) .ret)
def f22r3 : List AI := [⟨none, (.mov 10 (.t 5))⟩, ⟨none, (.bin 11 .add (.t 10) (.v (.k (.c (.int .i64 1)))))⟩, ⟨none, (.mov 5 (.t 11))⟩]
def f22r4 : List AI := [⟨none, (.mov 4 (.v (.k (.c (.bool false)))))⟩]
def f22b5 : AQ := (.seq (.region f22r4) .ret)
def f22b6 : AQ := (.cond (.t 45) f22b5 .skip)
def f22r7 : List AI := [⟨none, (.mov 12 (.t 1))⟩, ⟨none, (.mov 13 (.t 5))⟩, ⟨none, (.iaddr 14 1 (.t 12) (.t 13))⟩, ⟨none, (.load 15 1 false (.t 14))⟩, ⟨none, (.bin 16 .lss (.t 15) (.v (.k (.c (.int .i64 0)))))⟩, ⟨none, (.mov 17 (.t 16))⟩, ⟨(some (17, false)), (.mov 18 (.t 1))⟩, ⟨(some (17, false)), (.mov 19 (.t 5))⟩, ⟨(some (17, false)), (.iaddr 20 1 (.t 18) (.t 19))⟩, ⟨(some (17, false)), (.load 21 1 false (.t 20))⟩, ⟨(some (17, false)), (.mov 22 (.t 0))⟩, ⟨(some (17, false)), (.len 23 (.t 22))⟩, ⟨(some (17, false)), (.bin 24 .geq (.t 21) (.t 23))⟩, ⟨none, (.pick 25 (.t 17) (.v (.k (.c (.bool true)))) (.t 24))⟩, ⟨none, (.mov 26 (.t 25))⟩, ⟨(some (26, false)), (.mov 27 (.t 5))⟩, ⟨(some (26, false)), (.bin 28 .gtr (.t 27) (.v (.k (.c (.int .i64 0)))))⟩, ⟨(some (26, false)), (.mov 29 (.t 28))⟩, ⟨(some (29, true)), (.mov 30 (.t 0))⟩, ⟨(some (29, true)), (.mov 31 (.t 1))⟩, ⟨(some (29, true)), (.mov 32 (.t 5))⟩, ⟨(some (29, true)), (.iaddr 33 1 (.t 31) (.t 32))⟩, ⟨(some (29, true)), (.load 34 1 false (.t 33))⟩, ⟨(some (29, true)), (.iaddr 35 6 (.t 30) (.t 34))⟩, ⟨(some (29, true)), (.faddr 36 5 (.t 35))⟩, ⟨(some (29, true)), (.load 37 1 false (.t 36))⟩, ⟨(some (29, true)), (.mov 38 (.t 1))⟩, ⟨(some (29, true)), (.mov 39 (.t 5))⟩, ⟨(some (29, true)), (.bin 40 .sub (.t 39) (.v (.k (.c (.int .i64 1)))))⟩, ⟨(some (29, true)), (.iaddr 41 1 (.t 38) (.t 40))⟩, ⟨(some (29, true)), (.load 42 1 false (.t 41))⟩, ⟨(some (29, true)), (.bin 43 .neq (.t 37) (.t 42))⟩, ⟨(some (26, false)), (.pick 44 (.t 29) (.t 43) (.v (.k (.c (.bool false)))))⟩, ⟨none, (.pick 45 (.t 26) (.v (.k (.c (.bool true)))) (.t 44))⟩]
def f22b8 : AQ := (.seq (.draw f22r7 [[], [], [0, 1], [2], [3], [4], [5], [5], [6, 7, 5], [8, 5], [5], [10, 5], [9, 11, 5], [5, 12], [13, 5], [14], [15, 14], [16, 14, 14], [17], [17], [17], [19, 20, 17], [21, 17], [18, 22, 17], [23, 17], [24, 17], [17], [17], [27, 17], [26, 28, 17], [29, 17], [25, 30, 17], [17, 31, 14], [14, 32]]) f22b6)
def f22b9 : AQ := (.block 1 f22b8)
def f22b10 : AQ := (.seq f22b9 (.region f22r3))
def f22b11 : AQ := (.cond (.t 9) .skip (.exit 0))
def f22r12 : List AI := [⟨none, (.mov 6 (.t 5))⟩, ⟨none, (.mov 7 (.t 1))⟩, ⟨none, (.len 8 (.t 7))⟩, ⟨none, (.bin 9 .lss (.t 6) (.t 8))⟩]
def f22b13 : AQ := (.seq (.region f22r12) f22b11)
def f22b14 : AQ := (.seq f22b13 f22b10)
def f22l15 : AQ := .loop [0, 1, 5] [] f22b14
def f22b16 : AQ := (.block 0 f22l15)
def f22r17 : List AI := [⟨none, (.mov 5 (.v (.k (.c (.int .i64 0)))))⟩]
def f22b18 : AQ := (.seq (.region f22r17) f22b16)
def f22b19 : AQ := (.seq f22b18 f22b2)
def f22r20 : List AI := [⟨none, (.mov 4 (.v (.k (.c (.bool false)))))⟩]
def f22b21 : AQ := (.seq (.region f22r20) f22b19)
def f22 : AQ := f22b21
theorem hf22 : cFunc Try.prog 22 = some ⟨69, f22.erase, [(RX.t 4)]⟩ := by kernel_rfl
theorem okf22 : f22.ok = true := by kernel_rfl
def f23r1 : List AI := [⟨none, (.mov 6 (.v (.k (.c (.bool false)))))⟩]
def f23b2 : AQ := (.seq (.region f23r1) .ret)
def f23r3 : List AI := [⟨none, (.mov 12 (.t 7))⟩, ⟨none, (.bin 13 .add (.t 12) (.v (.k (.c (.int .i64 1)))))⟩, ⟨none, (.mov 7 (.t 13))⟩]
def f23r4 : List AI := [⟨none, (.mov 6 (.v (.k (.c (.bool true)))))⟩]
def f23b5 : AQ := (.seq (.region f23r4) .ret)
def f23b6 : AQ := (.cond (.t 29) f23b5 .skip)
def f23r7 : List AI := [⟨none, (.mov 14 (.t 0))⟩, ⟨none, (.mov 15 (.t 7))⟩, ⟨none, (.iaddr 16 2 (.t 14) (.t 15))⟩, ⟨none, (.iaddrA 17 1 2 (.t 16) (.v (.k (.c (.int .i64 0)))))⟩, ⟨none, (.load 18 1 false (.t 17))⟩, ⟨none, (.mov 19 (.t 1))⟩, ⟨none, (.bin 20 .eql (.t 18) (.t 19))⟩, ⟨none, (.mov 21 (.t 20))⟩, ⟨(some (21, true)), (.mov 22 (.t 0))⟩, ⟨(some (21, true)), (.mov 23 (.t 7))⟩, ⟨(some (21, true)), (.iaddr 24 2 (.t 22) (.t 23))⟩, ⟨(some (21, true)), (.iaddrA 25 1 2 (.t 24) (.v (.k (.c (.int .i64 1)))))⟩, ⟨(some (21, true)), (.load 26 1 false (.t 25))⟩, ⟨(some (21, true)), (.mov 27 (.t 2))⟩, ⟨(some (21, true)), (.bin 28 .eql (.t 26) (.t 27))⟩, ⟨none, (.pick 29 (.t 21) (.t 28) (.v (.k (.c (.bool false)))))⟩]
def f23b8 : AQ := (.seq (.region f23r7) f23b6)
def f23b9 : AQ := (.block 1 f23b8)
def f23b10 : AQ := (.seq f23b9 (.region f23r3))
def f23b11 : AQ := (.cond (.t 11) .skip (.exit 0))
def f23r12 : List AI := [⟨none, (.mov 8 (.t 7))⟩, ⟨none, (.mov 9 (.t 0))⟩, ⟨none, (.len 10 (.t 9))⟩, ⟨none, (.bin 11 .lss (.t 8) (.t 10))⟩]
def f23b13 : AQ := (.seq (.region f23r12) f23b11)
def f23b14 : AQ := (.seq f23b13 f23b10)
def f23l15 : AQ := .loop [0, 1, 2, 7] [] f23b14
def f23b16 : AQ := (.block 0 f23l15)
def f23r17 : List AI := [⟨none, (.mov 7 (.v (.k (.c (.int .i64 0)))))⟩]
def f23b18 : AQ := (.seq (.region f23r17) f23b16)
def f23b19 : AQ := (.seq f23b18 f23b2)
def f23r20 : List AI := [⟨none, (.mov 6 (.v (.k (.c (.bool false)))))⟩]
def f23b21 : AQ := (.seq (.region f23r20) f23b19)
def f23 : AQ := f23b21
def f24r1 : List AI := [⟨none, (.mov 26 (.t 3))⟩, ⟨none, (.mov 2 (.t 26))⟩]
def f24b2 : AQ := (.seq (.region f24r1) .ret)
def f24r3 : List AI := [⟨none, (.mov 10 (.t 4))⟩, ⟨none, (.bin 11 .add (.t 10) (.v (.k (.c (.int .i64 1)))))⟩, ⟨none, (.mov 4 (.t 11))⟩]
def f24r4 : List AI := [⟨none, (.mov 12 (.t 3))⟩, ⟨none, (.mov 13 (.t 0))⟩, ⟨none, (.mov 14 (.t 4))⟩, ⟨none, (.iaddr 15 6 (.t 13) (.t 14))⟩, ⟨none, (.faddr 16 0 (.t 15))⟩, ⟨none, (.load 17 1 false (.t 16))⟩, ⟨none, (.mov 18 (.t 0))⟩, ⟨none, (.mov 19 (.t 4))⟩, ⟨none, (.iaddr 20 6 (.t 18) (.t 19))⟩, ⟨none, (.faddr 21 1 (.t 20))⟩, ⟨none, (.load 22 1 false (.t 21))⟩, ⟨none, (.build 23 [(.int .i64 0), (.int .i64 0)] [(0, (1, (.t 17))), (1, (1, (.t 22)))])⟩, ⟨none, (.bslice 24 59 2 [(.int .i64 0), (.int .i64 0)] 1 [(0, (.t 23))])⟩, ⟨none, (.append 25 59 2 16 (.t 12) (.t 24))⟩, ⟨none, (.mov 3 (.t 25))⟩]
def f24b5 : AQ := (.block 1 (.draw f24r4 [[], [], [], [1, 2], [3], [4], [], [], [6, 7], [8], [9], [5, 10], [11], [0, 12], [13, 13, 0, 1, 2, 3, 4, 5, 6, 7, 8, 9, 10, 11, 12, 13]]))
def f24b6 : AQ := (.seq f24b5 (.region f24r3))
def f24b7 : AQ := (.cond (.t 9) .skip (.exit 0))
def f24r8 : List AI := [⟨none, (.mov 6 (.t 4))⟩, ⟨none, (.mov 7 (.t 0))⟩, ⟨none, (.len 8 (.t 7))⟩, ⟨none, (.bin 9 .lss (.t 6) (.t 8))⟩]
def f24b9 : AQ := (.seq (.region f24r8) f24b7)
def f24b10 : AQ := (.seq f24b9 f24b6)
def f24l11 : AQ := .loop [0, 3, 4] [5, 25] f24b10
def f24b12 : AQ := (.block 0 f24l11)
def f24r13 : List AI := [⟨none, (.mov 4 (.v (.k (.c (.int .i64 0)))))⟩]
def f24b14 : AQ := (.seq (.region f24r13) f24b12)
def f24b15 : AQ := (.seq f24b14 f24b2)
def f24r16 : List AI := [⟨none, (.bslice 5 59 2 [(.int .i64 0), (.int .i64 0)] 0 [])⟩, ⟨none, (.mov 3 (.t 5))⟩]
def f24b17 : AQ := (.seq (.region f24r16) f24b15)
def f24r18 : List AI := [⟨none, (.nilL 2 59 2)⟩]
def f24b19 : AQ := (.seq (.region f24r18) f24b17)
def f24 : AQ := f24b19
def f25r1 : List AI := [(AI.mk none (.build 1 [(.int .i64 0), (.int .i64 0), (.int .i64 0), (.int .i64 0), (.int .i64 0), (.int .i64 0)] [(0, (1, (.v (.k (.c (.int .i64 1)))))), (1, (1, (.v (.k (.c (.int .i64 2)))))), (2, (1, (.v (.k (.c (.int .i64 100)))))), (3, (1, (.v (.k (.c (.int .i64 0)))))), (4, (1, (.v (.k (.c (.int .i64 30)))))), (5, (1, (.v (.k (.c (.int .i64 (-1)))))))])), ⟨none, (.build 2 [(.int .i64 0), (.int .i64 0), (.int .i64 0), (.int .i64 0), (.int .i64 0), (.int .i64 0)] [(0, (1, (.v (.k (.c (.int .i64 2)))))), (1, (1, (.v (.k (.c (.int .i64 3)))))), (2, (1, (.v (.k (.c (.int .i64 90)))))), (3, (1, (.v (.k (.c (.int .i64 29)))))), (4, (1, (.v (.k (.c (.int .i64 59)))))), (5, (1, (.v (.k (.c (.int .i64 0))))))])⟩, ⟨none, (.build 3 [(.int .i64 0), (.int .i64 0), (.int .i64 0), (.int .i64 0), (.int .i64 0), (.int .i64 0)] [(0, (1, (.v (.k (.c (.int .i64 3)))))), (1, (1, (.v (.k (.c (.int .i64 1)))))), (2, (1, (.v (.k (.c (.int .i64 100)))))), (3, (1, (.v (.k (.c (.int .i64 50)))))), (4, (1, (.v (.k (.c (.int .i64 90)))))), (5, (1, (.v (.k (.c (.int .i64 1))))))])⟩, ⟨none, (.bslice 4 40 6 [(.int .i64 0), (.int .i64 0), (.int .i64 0), (.int .i64 0), (.int .i64 0), (.int .i64 0)] 3 [(0, (.t 1)), (1, (.t 2)), (2, (.t 3))])⟩, ⟨none, (.mov 0 (.t 4))⟩]
def f25b2 : AQ := (.seq (.region f25r1) .ret)
def f25r3 : List AI := [⟨none, (.nilL 0 40 6)⟩]
def f25b4 : AQ := (.seq (.region f25r3) f25b2)
def f25 : AQ := f25b4
theorem hf25 : cFunc Try.prog 25 = some ⟨5, f25.erase, [(RX.t 0)]⟩ := by kernel_rfl
theorem okf25 : f25.ok = true := by kernel_rfl
def f26r1 : List AI := [⟨none, (.mov 3 (.t 0))⟩, ⟨none, (.bin 4 .geq (.t 3) (.v (.k (.c (.int .i64 0)))))⟩, ⟨none, (.mov 5 (.t 4))⟩, ⟨(some (5, true)), (.mov 6 (.t 0))⟩, ⟨(some (5, true)), (.bin 7 .lss (.t 6) (.v (.k (.c (.int .i64 200)))))⟩, ⟨none, (.pick 8 (.t 5) (.t 7) (.v (.k (.c (.bool false)))))⟩, ⟨none, (.mov 2 (.t 8))⟩]
def f26b2 : AQ := (.seq (.region f26r1) .ret)
def f26r3 : List AI := [⟨none, (.mov 2 (.v (.k (.c (.bool false)))))⟩]
def f26b4 : AQ := (.seq (.region f26r3) f26b2)
def f26 : AQ := f26b4
def f27r1 : List AI := [⟨none, (.mov 3 (.t 0))⟩, ⟨none, (.bin 4 .geq (.t 3) (.v (.k (.c (.int .i64 0)))))⟩, ⟨none, (.mov 5 (.t 4))⟩, ⟨(some (5, true)), (.mov 6 (.t 0))⟩, ⟨(some (5, true)), (.bin 7 .lss (.t 6) (.v (.k (.c (.int .i64 200)))))⟩, ⟨none, (.pick 8 (.t 5) (.t 7) (.v (.k (.c (.bool false)))))⟩, ⟨none, (.mov 2 (.t 8))⟩]
def f27b2 : AQ := (.seq (.region f27r1) .ret)
def f27r3 : List AI := [⟨none, (.mov 2 (.v (.k (.c (.bool false)))))⟩]
def f27b4 : AQ := (.seq (.region f27r3) f27b2)
def f27 : AQ := f27b4
theorem hf27 : cFunc Try.prog 27 = some ⟨9, f27.erase, [(RX.t 2)]⟩ := by kernel_rfl
theorem okf27 : f27.ok = true := by kernel_rfl
def f28r1 : List AI := [⟨none, (.mov 3 (.t 0))⟩, ⟨none, (.bin 4 .geq (.t 3) (.v (.k (.c (.int .i64 0)))))⟩, ⟨none, (.mov 5 (.t 4))⟩, ⟨(some (5, true)), (.mov 6 (.t 0))⟩, ⟨(some (5, true)), (.bin 7 .leq (.t 6) (.v (.k (.c (.int .i64 100000)))))⟩, ⟨none, (.pick 8 (.t 5) (.t 7) (.v (.k (.c (.bool false)))))⟩, ⟨none, (.mov 2 (.t 8))⟩]
def f28b2 : AQ := (.seq (.region f28r1) .ret)
def f28r3 : List AI := [⟨none, (.mov 2 (.v (.k (.c (.bool false)))))⟩]
def f28b4 : AQ := (.seq (.region f28r3) f28b2)
def f28 : AQ := f28b4
theorem hf28 : cFunc Try.prog 28 = some ⟨9, f28.erase, [(RX.t 2)]⟩ := by kernel_rfl
theorem okf28 : f28.ok = true := by kernel_rfl
def f29r1 : List AI := [⟨none, (.mov 52 (.t 3))⟩, ⟨none, (.mov 2 (.t 52))⟩]
def f29b2 : AQ := (.seq (.region f29r1) .ret)
def f29r3 : List AI := [⟨none, (.bin 51 .add (.t 40) (.v (.k (.c (.int .i64 1)))))⟩, ⟨none, (.mov 40 (.t 51))⟩]
def f29r4 : List AI := [⟨none, (.mov 43 (.t 3))⟩, ⟨none, (.mov 44 (.t 6))⟩, ⟨none, (.mov 45 (.t 3))⟩, ⟨none, (.mov 46 (.t 6))⟩, ⟨none, (.iaddr 47 1 (.t 45) (.t 46))⟩, ⟨none, (.load 48 1 false (.t 47))⟩, ⟨none, (.minmax 49 true (.v (.k (.c (.int .i64 0)))) [(.t 48)])⟩, ⟨none, (.iaddr 50 1 (.t 43) (.t 44))⟩, ⟨none, (.store 1 (.t 50) (.t 49))⟩]
def f29r5 : List AI := [⟨none, (.mov 42 (.t 40))⟩, ⟨none, (.mov 6 (.t 42))⟩]
def f29b6 : AQ := (.seq (.region f29r5) (.region f29r4))
def f29b7 : AQ := (.block 3 f29b6)
def f29b8 : AQ := (.seq f29b7 (.region f29r3))
def f29b9 : AQ := (.cond (.t 41) .skip (.exit 2))
def f29b10 : AQ := (.seq f29b9 f29b8)
def f29r11 : List AI := [⟨none, (.bin 41 .lss (.t 40) (.t 39))⟩]
def f29b12 : AQ := (.seq (.region f29r11) f29b10)
def f29l13 : AQ := .loop [3, 39, 40] [9] f29b12
def f29b14 : AQ := (.block 2 f29l13)
def f29r15 : List AI := [⟨none, (.mov 38 (.t 3))⟩, ⟨none, (.len 39 (.t 38))⟩, ⟨none, (.mov 40 (.v (.k (.c (.int .i64 0)))))⟩]
def f29b16 : AQ := (.seq (.region f29r15) f29b14)
def f29b17 : AQ := (.seq f29b16 f29b2)
def f29r18 : List AI := [⟨none, (.bin 37 .add (.t 12) (.v (.k (.c (.int .i64 1)))))⟩, ⟨none, (.mov 12 (.t 37))⟩]
def f29r19 : List AI := [⟨none, (.mov 28 (.t 3))⟩, ⟨none, (.faddr 29 5 (.t 5))⟩, ⟨none, (.load 30 1 false (.t 29))⟩, ⟨none, (.iaddr 31 1 (.t 28) (.t 30))⟩, ⟨none, (.load 32 1 false (.t 31))⟩, ⟨none, (.faddr 33 2 (.t 5))⟩, ⟨none, (.load 34 1 false (.t 33))⟩, ⟨none, (.bin 35 .sub (.t 32) (.t 34))⟩, ⟨none, (.iaddr 36 1 (.t 28) (.t 30))⟩, ⟨none, (.store 1 (.t 36) (.t 35))⟩]
def f29b20 : AQ := (.cond (.t 27) (.draw f29r19 [[], [], [1], [0, 2], [3], [], [5], [4, 6], [0, 2, 0, 1, 2, 3, 4, 5, 6, 7], [8, 7, 0, 1, 2, 3, 4, 5, 6, 7]]) .skip)
def f29r21 : List AI := [⟨none, (.faddr 25 5 (.t 5))⟩, ⟨none, (.load 26 1 false (.t 25))⟩, ⟨none, (.bin 27 .neq (.t 26) (.v (.k (.c (.int .i64 (-1))))))⟩]
def f29b22 : AQ := (.seq (.region f29r21) f29b20)
def f29r23 : List AI := [⟨none, (.mov 17 (.t 3))⟩, ⟨none, (.mov 18 (.t 4))⟩, ⟨none, (.iaddr 19 1 (.t 17) (.t 18))⟩, ⟨none, (.load 20 1 false (.t 19))⟩, ⟨none, (.faddr 21 2 (.t 5))⟩, ⟨none, (.load 22 1 false (.t 21))⟩, ⟨none, (.bin 23 .add (.t 20) (.t 22))⟩, ⟨none, (.iaddr 24 1 (.t 17) (.t 18))⟩, ⟨none, (.store 1 (.t 24) (.t 23))⟩]
def f29b24 : AQ := (.seq (.draw f29r23 [[], [], [0, 1], [2], [], [4], [3, 5], [0, 1, 0, 1, 2, 3, 4, 5, 6], [7, 6, 0, 1, 2, 3, 4, 5, 6]]) f29b22)
def f29r25 : List AI := [⟨none, (.mov 14 (.t 12))⟩, ⟨none, (.iaddr 15 6 (.t 10) (.t 12))⟩, ⟨none, (.load 16 6 true (.t 15))⟩, ⟨none, (.alloc 5 40 [(.int .i64 0), (.int .i64 0), (.int .i64 0), (.int .i64 0), (.int .i64 0), (.int .i64 0)])⟩, ⟨none, (.mov 4 (.t 14))⟩, ⟨none, (.store 6 (.t 5) (.t 16))⟩]
def f29b26 : AQ := (.seq (.region f29r25) f29b24)
def f29b27 : AQ := (.block 1 f29b26)
def f29b28 : AQ := (.seq f29b27 (.region f29r18))
def f29b29 : AQ := (.cond (.t 13) .skip (.exit 0))
def f29b30 : AQ := (.seq f29b29 f29b28)
def f29r31 : List AI := [⟨none, (.bin 13 .lss (.t 12) (.t 11))⟩]
def f29b32 : AQ := (.seq (.region f29r31) f29b30)
def f29l33 : AQ := .loop [3, 10, 11, 12] [9] f29b32
def f29b34 : AQ := (.block 0 f29l33)
def f29r35 : List AI := [⟨none, (.mov 10 (.t 0))⟩, ⟨none, (.len 11 (.t 10))⟩, ⟨none, (.mov 12 (.v (.k (.c (.int .i64 0)))))⟩]
def f29b36 : AQ := (.seq (.region f29r35) f29b34)
def f29b37 : AQ := (.seq f29b36 f29b17)
def f29r38 : List AI := [⟨none, (.mov 7 (.t 0))⟩, ⟨none, (.len 8 (.t 7))⟩, ⟨none, (.mkslice 9 3 1 8 [(.int .i64 0)] (.t 8) (.t 8))⟩, ⟨none, (.mov 3 (.t 9))⟩]
def f29b39 : AQ := (.seq (.region f29r38) f29b37)
def f29r40 : List AI := [⟨none, (.nilL 2 3 1)⟩]
def f29b41 : AQ := (.seq (.region f29r40) f29b39)
def f29 : AQ := f29b41
theorem hf29 : cFunc Try.prog 29 = some ⟨53, f29.erase, [(RX.t 2)]⟩ := by kernel_rfl
theorem okf29 : f29.ok = true := by kernel_rfl
def f30r1 : List AI := [⟨none, (.faddr 5 2 (.t 2))⟩, ⟨none, (.load 6 1 false (.t 5))⟩, ⟨none, (.faddr 7 2 (.t 3))⟩, ⟨none, (.load 8 1 false (.t 7))⟩, ⟨none, (.bin 9 .eql (.t 6) (.t 8))⟩, ⟨none, (.mov 10 (.t 9))⟩, ⟨(some (10, true)), (.faddr 11 0 (.t 2))⟩, ⟨(some (10, true)), (.load 12 1 false (.t 11))⟩, ⟨(some (10, true)), (.faddr 13 0 (.t 3))⟩, ⟨(some (10, true)), (.load 14 1 false (.t 13))⟩, ⟨(some (10, true)), (.call (some 15) 19 [(.t 12), (.t 14)])⟩, ⟨none, (.pick 16 (.t 10) (.t 15) (.v (.k (.c (.bool false)))))⟩, ⟨none, (.mov 17 (.t 16))⟩, ⟨(some (17, true)), (.faddr 18 1 (.t 2))⟩, ⟨(some (17, true)), (.load 19 1 false (.t 18))⟩, ⟨(some (17, true)), (.faddr 20 1 (.t 3))⟩, ⟨(some (17, true)), (.load 21 1 false (.t 20))⟩, ⟨(some (17, true)), (.call (some 22) 19 [(.t 19), (.t 21)])⟩, ⟨none, (.pick 23 (.t 17) (.t 22) (.v (.k (.c (.bool false)))))⟩, ⟨none, (.mov 4 (.t 23))⟩]
def f30b2 : AQ := (.seq (.region f30r1) .ret)
def f30r3 : List AI := [⟨none, (.box 2 25 (.t 0))⟩, ⟨none, (.box 3 25 (.t 1))⟩, ⟨none, (.mov 4 (.v (.k (.c (.bool false)))))⟩]
def f30b4 : AQ := (.seq (.region f30r3) f30b2)
def f30 : AQ := f30b4
theorem hf30 : cFunc Try.prog 30 = some ⟨24, f30.erase, [(RX.t 4)]⟩ := by kernel_rfl
theorem okf30 : f30.ok = true := by kernel_rfl
def f31r1 : List AI := [⟨none, (.nilL 4 3 1)⟩]
def f31b2 : AQ := (.seq (.region f31r1) .ret)
def f31r3 : List AI := [⟨none, (.mov 16 (.t 0))⟩, ⟨none, (.mov 17 (.t 6))⟩, ⟨none, (.iaddr 18 6 (.t 16) (.t 17))⟩, ⟨none, (.faddr 19 5 (.t 18))⟩, ⟨none, (.load 20 1 false (.t 19))⟩, ⟨none, (.mov 6 (.t 20))⟩]
def f31r4 : List AI := [⟨none, (.mov 38 (.t 5))⟩, ⟨none, (.mov 4 (.t 38))⟩]
def f31b5 : AQ := (.seq (.region f31r4) .ret)
def f31r6 : List AI := [⟨none, (.mov 36 (.t 5))⟩, ⟨none, (.call (some 37) 43 [(.t 36)])⟩]
def f31b7 : AQ := (.seq (.region f31r6) f31b5)
def f31b8 : AQ := (.cond (.t 35) f31b7 .skip)
def f31r9 : List AI := [⟨none, (.mov 25 (.t 0))⟩, ⟨none, (.mov 26 (.t 6))⟩, ⟨none, (.iaddr 27 6 (.t 25) (.t 26))⟩, ⟨none, (.faddr 28 0 (.t 27))⟩, ⟨none, (.load 29 1 false (.t 28))⟩, ⟨none, (.mov 30 (.t 0))⟩, ⟨none, (.mov 31 (.t 1))⟩, ⟨none, (.iaddr 32 6 (.t 30) (.t 31))⟩, ⟨none, (.faddr 33 1 (.t 32))⟩, ⟨none, (.load 34 1 false (.t 33))⟩, ⟨none, (.bin 35 .eql (.t 29) (.t 34))⟩]
def f31b10 : AQ := (.seq (.draw f31r9 [[], [], [0, 1], [2], [3], [], [], [5, 6], [7], [8], [4, 9]]) f31b8)
def f31r11 : List AI := [⟨none, (.mov 21 (.t 5))⟩, ⟨none, (.mov 22 (.t 6))⟩, ⟨none, (.bslice 23 3 1 [(.int .i64 0)] 1 [(0, (.t 22))])⟩, ⟨none, (.append 24 3 1 8 (.t 21) (.t 23))⟩, ⟨none, (.mov 5 (.t 24))⟩]
def f31b12 : AQ := (.seq (.region f31r11) f31b10)
def f31b13 : AQ := (.block 1 f31b12)
def f31b14 : AQ := (.seq f31b13 (.region f31r3))
def f31b15 : AQ := (.cond (.t 15) .skip (.exit 0))
def f31r16 : List AI := [⟨none, (.mov 14 (.t 6))⟩, ⟨none, (.bin 15 .neq (.t 14) (.v (.k (.c (.int .i64 (-1))))))⟩]
def f31b17 : AQ := (.seq (.region f31r16) f31b15)
def f31b18 : AQ := (.seq f31b17 f31b14)
def f31l19 : AQ := .loop [0, 1, 5, 6] [8, 24] f31b18
def f31b20 : AQ := (.block 0 f31l19)
def f31r21 : List AI := [⟨none, (.mov 9 (.t 0))⟩, ⟨none, (.mov 10 (.t 1))⟩, ⟨none, (.iaddr 11 6 (.t 9) (.t 10))⟩, ⟨none, (.faddr 12 5 (.t 11))⟩, ⟨none, (.load 13 1 false (.t 12))⟩, ⟨none, (.mov 6 (.t 13))⟩]
def f31b22 : AQ := (.seq (.region f31r21) f31b20)
def f31b23 : AQ := (.seq f31b22 f31b2)
def f31r24 : List AI := [⟨none, (.mov 7 (.t 1))⟩, ⟨none, (.bslice 8 3 1 [(.int .i64 0)] 1 [(0, (.t 7))])⟩, ⟨none, (.mov 5 (.t 8))⟩]
def f31b25 : AQ := (.seq (.region f31r24) f31b23)
def f31r26 : List AI := [⟨none, (.nilL 4 3 1)⟩]
def f31b27 : AQ := (.seq (.region f31r26) f31b25)
def f31 : AQ := f31b27
theorem hf31 : cFunc Try.prog 31 = some ⟨39, f31.erase, [(RX.t 4)]⟩ := by kernel_rfl
theorem okf31 : f31.ok = true := by kernel_rfl
def f38r1 : List AI := [⟨none, (.mov 5 (.t 0))⟩, ⟨none, (.mov 6 (.t 1))⟩, ⟨none, (.call (some 7) 49 [(.t 5), (.t 6)])⟩, ⟨none, (.bin 8 .geq (.t 7) (.v (.k (.c (.int .i64 0)))))⟩, ⟨none, (.mov 4 (.t 8))⟩]
def f38b2 : AQ := (.seq (.region f38r1) .ret)
def f38r3 : List AI := [⟨none, (.mov 4 (.v (.k (.c (.bool false)))))⟩]
def f38b4 : AQ := (.seq (.region f38r3) f38b2)
def f38 : AQ := f38b4
theorem hf38 : cFunc Try.prog 38 = some ⟨9, f38.erase, [(RX.t 4)]⟩ := by kernel_rfl
theorem okf38 : f38.ok = true := by kernel_rfl
def f39r1 : List AI := [⟨none, (.faddr 4 0 (.t 2))⟩, ⟨none, (.load 5 1 false (.t 4))⟩, ⟨none, (.faddr 6 0 (.t 1))⟩, ⟨none, (.load 7 1 false (.t 6))⟩, ⟨none, (.call (some 8) 40 [(.t 5), (.t 7)])⟩, ⟨none, (.mov 9 (.t 8))⟩, ⟨(some (9, true)), (.faddr 10 1 (.t 2))⟩, ⟨(some (9, true)), (.load 11 1 false (.t 10))⟩, ⟨(some (9, true)), (.faddr 12 1 (.t 1))⟩, ⟨(some (9, true)), (.load 13 1 false (.t 12))⟩, ⟨(some (9, true)), (.call (some 14) 40 [(.t 11), (.t 13)])⟩, ⟨none, (.pick 15 (.t 9) (.t 14) (.v (.k (.c (.bool false)))))⟩, ⟨none, (.mov 16 (.t 15))⟩, ⟨(some (16, true)), (.faddr 17 2 (.t 2))⟩, ⟨(some (16, true)), (.load 18 1 false (.t 17))⟩, ⟨(some (16, true)), (.faddr 19 2 (.t 1))⟩, ⟨(some (16, true)), (.load 20 1 false (.t 19))⟩, ⟨(some (16, true)), (.bin 21 .eql (.t 18) (.t 20))⟩, ⟨none, (.pick 22 (.t 16) (.t 21) (.v (.k (.c (.bool false)))))⟩, ⟨none, (.mov 3 (.t 22))⟩]
def f39b2 : AQ := (.seq (.region f39r1) .ret)
def f39r3 : List AI := [⟨none, (.box 2 25 (.t 0))⟩, ⟨none, (.mov 3 (.v (.k (.c (.bool false)))))⟩]
def f39b4 : AQ := (.seq (.region f39r3) f39b2)
def f39 : AQ := f39b4
theorem hf39 : cFunc Try.prog 39 = some ⟨23, f39.erase, [(RX.t 3)]⟩ := by kernel_rfl
theorem okf39 : f39.ok = true := by kernel_rfl
def f40r1 : List AI := [⟨none, (.mov 4 (.v (.k (.c (.bool true)))))⟩]
def f40b2 : AQ := (.seq (.region f40r1) .ret)
def f40r3 : List AI := [⟨none, (.bin 25 .add (.t 13) (.v (.k (.c (.int .i64 1)))))⟩, ⟨none, (.mov 13 (.t 25))⟩]
def f40r4 : List AI := [⟨none, (.mov 4 (.v (.k (.c (.bool false)))))⟩]
def f40b5 : AQ := (.seq (.region f40r4) .ret)
def f40b6 : AQ := (.cond (.t 24) f40b5 .skip)
def f40r7 : List AI := [⟨none, (.mov 16 (.t 0))⟩, ⟨none, (.mov 17 (.t 5))⟩, ⟨none, (.iaddr 18 1 (.t 16) (.t 17))⟩, ⟨none, (.load 19 1 false (.t 18))⟩, ⟨none, (.mov 20 (.t 1))⟩, ⟨none, (.mov 21 (.t 5))⟩, ⟨none, (.iaddr 22 1 (.t 20) (.t 21))⟩, ⟨none, (.load 23 1 false (.t 22))⟩, ⟨none, (.bin 24 .neq (.t 19) (.t 23))⟩]
def f40b8 : AQ := (.seq (.draw f40r7 [[], [], [0, 1], [2], [], [], [4, 5], [6], [3, 7]]) f40b6)
def f40r9 : List AI := [⟨none, (.mov 15 (.t 13))⟩, ⟨none, (.mov 5 (.t 15))⟩]
def f40b10 : AQ := (.seq (.region f40r9) f40b8)
def f40b11 : AQ := (.block 1 f40b10)
def f40b12 : AQ := (.seq f40b11 (.region f40r3))
def f40b13 : AQ := (.cond (.t 14) .skip (.exit 0))
def f40b14 : AQ := (.seq f40b13 f40b12)
def f40r15 : List AI := [⟨none, (.bin 14 .lss (.t 13) (.t 12))⟩]
def f40b16 : AQ := (.seq (.region f40r15) f40b14)
def f40l17 : AQ := .loop [0, 1, 12, 13] [] f40b16
def f40b18 : AQ := (.block 0 f40l17)
def f40r19 : List AI := [⟨none, (.mov 11 (.t 0))⟩, ⟨none, (.len 12 (.t 11))⟩, ⟨none, (.mov 13 (.v (.k (.c (.int .i64 0)))))⟩]
def f40b20 : AQ := (.seq (.region f40r19) f40b18)
def f40b21 : AQ := (.seq f40b20 f40b2)
def f40r22 : List AI := [⟨none, (.mov 4 (.v (.k (.c (.bool false)))))⟩]
def f40b23 : AQ := (.seq (.region f40r22) .ret)
def f40b24 : AQ := (.cond (.t 10) f40b23 .skip)
def f40r25 : List AI := [⟨none, (.mov 6 (.t 0))⟩, ⟨none, (.len 7 (.t 6))⟩, ⟨none, (.mov 8 (.t 1))⟩, ⟨none, (.len 9 (.t 8))⟩, ⟨none, (.bin 10 .neq (.t 7) (.t 9))⟩]
def f40b26 : AQ := (.seq (.region f40r25) f40b24)
def f40b27 : AQ := (.seq f40b26 f40b21)
def f40r28 : List AI := [⟨none, (.mov 4 (.v (.k (.c (.bool false)))))⟩]
def f40b29 : AQ := (.seq (.region f40r28) f40b27)
def f40 : AQ := f40b29
theorem hf40 : cFunc Try.prog 40 = some ⟨26, f40.erase, [(RX.t 4)]⟩ := by kernel_rfl
theorem okf40 : f40.ok = true := by kernel_rfl
def f41r1 : List AI := [⟨none, (.mov 144 (.t 11))⟩, ⟨none, (.mov 4 (.t 144))⟩]
def f41b2 : AQ := (.seq (.region f41r1) .ret)
def f41r3 : List AI := [⟨none, (.bin 143 .add (.t 51) (.v (.k (.c (.int .i64 1)))))⟩, ⟨none, (.mov 51 (.t 143))⟩]
def f41r4 : List AI := [⟨none, (.mov 111 (.t 16))⟩, ⟨none, (.bin 112 .sub (.t 111) (.v (.k (.c (.int .i64 1)))))⟩, ⟨none, (.mov 16 (.t 112))⟩]
def f41r5 : List AI := [⟨none, (.bin 142 .add (.t 123) (.v (.k (.c (.int .i64 1)))))⟩, ⟨none, (.mov 123 (.t 142))⟩]
def f41r6 : List AI := [⟨none, (.mov 138 (.t 11))⟩, ⟨none, (.mov 139 (.t 18))⟩, ⟨none, (.bslice 140 3 1 [(.int .i64 0)] 1 [(0, (.t 139))])⟩, ⟨none, (.append 141 3 1 8 (.t 138) (.t 140))⟩, ⟨none, (.mov 11 (.t 141))⟩]
def f41b7 : AQ := (.seq (.region f41r6) (.exit 8))
def f41b8 : AQ := (.cond (.t 137) f41b7 .skip)
def f41r9 : List AI := [⟨none, (.mov 127 (.t 18))⟩, ⟨none, (.mov 128 (.t 12))⟩, ⟨none, (.bin 129 .gtr (.t 127) (.t 128))⟩, ⟨none, (.mov 130 (.t 129))⟩, ⟨(some (130, true)), (.mov 131 (.t 10))⟩, ⟨(some (130, true)), (.mov 132 (.t 18))⟩, ⟨(some (130, true)), (.iaddr 133 1 (.t 131) (.t 132))⟩, ⟨(some (130, true)), (.load 134 1 false (.t 133))⟩, ⟨(some (130, true)), (.mov 135 (.t 16))⟩, ⟨(some (130, true)), (.bin 136 .eql (.t 134) (.t 135))⟩, ⟨none, (.pick 137 (.t 130) (.t 136) (.v (.k (.c (.bool false)))))⟩]
def f41b10 : AQ := (.seq (.region f41r9) f41b8)
def f41r11 : List AI := [⟨none, (.iaddr 125 1 (.t 121) (.t 123))⟩, ⟨none, (.load 126 1 false (.t 125))⟩, ⟨none, (.mov 18 (.t 126))⟩]
def f41b12 : AQ := (.seq (.region f41r11) f41b10)
def f41b13 : AQ := (.block 9 f41b12)
def f41b14 : AQ := (.seq f41b13 (.region f41r5))
def f41b15 : AQ := (.cond (.t 124) .skip (.exit 8))
def f41b16 : AQ := (.seq f41b15 f41b14)
def f41r17 : List AI := [⟨none, (.bin 124 .lss (.t 123) (.t 122))⟩]
def f41b18 : AQ := (.seq (.region f41r17) f41b16)
def f41l19 : AQ := .loop [8, 9, 10, 11, 12, 16, 50, 51, 121, 122, 123] [11, 25, 44, 47, 49, 107, 141, 45000, 45001, 45002, 48000, 48001, 48002] f41b18
def f41b20 : AQ := (.block 8 f41l19)
def f41r21 : List AI := [⟨none, (.mov 113 (.t 8))⟩, ⟨none, (.mov 114 (.t 11))⟩, ⟨none, (.mov 115 (.t 11))⟩, ⟨none, (.len 116 (.t 115))⟩, ⟨none, (.bin 117 .sub (.t 116) (.v (.k (.c (.int .i64 1)))))⟩, ⟨none, (.iaddr 118 1 (.t 114) (.t 117))⟩, ⟨none, (.load 119 1 false (.t 118))⟩, ⟨none, (.iaddr 120 1 (.t 113) (.t 119))⟩, ⟨none, (.load 121 1 false (.t 120))⟩, ⟨none, (.len 122 (.t 121))⟩, ⟨none, (.mov 123 (.v (.k (.c (.int .i64 0)))))⟩]
def f41b22 : AQ := (.seq (.region f41r21) f41b20)
def f41b23 : AQ := (.block 7 f41b22)
def f41b24 : AQ := (.seq f41b23 (.region f41r4))
def f41b25 : AQ := (.cond (.t 110) .skip (.exit 6))
def f41r26 : List AI := [⟨none, (.mov 109 (.t 16))⟩, ⟨none, (.bin 110 .gtr (.t 109) (.v (.k (.c (.int .i64 1)))))⟩]
def f41b27 : AQ := (.seq (.region f41r26) f41b25)
def f41b28 : AQ := (.seq f41b27 f41b24)
def f41l29 : AQ := .loop [8, 9, 10, 11, 12, 16, 50, 51] [11, 25, 44, 47, 49, 107, 141, 45000, 45001, 45002, 48000, 48001, 48002] f41b28
def f41b30 : AQ := (.block 6 f41l29)
def f41r31 : List AI := [⟨none, (.mov 108 (.t 13))⟩, ⟨none, (.mov 16 (.t 108))⟩]
def f41b32 : AQ := (.seq (.region f41r31) f41b30)
def f41r33 : List AI := [⟨none, (.mov 106 (.t 12))⟩, ⟨none, (.bslice 107 3 1 [(.int .i64 0)] 1 [(0, (.t 106))])⟩, ⟨none, (.mov 11 (.t 107))⟩]
def f41b34 : AQ := (.seq (.region f41r33) f41b32)
def f41b35 : AQ := (.cond (.t 105) (.exit 3) .skip)
def f41r36 : List AI := [⟨none, (.mov 94 (.t 13))⟩, ⟨none, (.bin 95 .eql (.t 94) (.v (.k (.c (.int .i64 0)))))⟩, ⟨none, (.mov 96 (.t 95))⟩, ⟨(some (96, false)), (.mov 97 (.t 11))⟩, ⟨(some (96, false)), (.nilcmp 98 true (.t 97))⟩, ⟨(some (96, false)), (.mov 99 (.t 98))⟩, ⟨(some (99, true)), (.mov 100 (.t 13))⟩, ⟨(some (99, true)), (.mov 101 (.t 11))⟩, ⟨(some (99, true)), (.len 102 (.t 101))⟩, ⟨(some (99, true)), (.bin 103 .geq (.t 100) (.t 102))⟩, ⟨(some (96, false)), (.pick 104 (.t 99) (.t 103) (.v (.k (.c (.bool false)))))⟩, ⟨none, (.pick 105 (.t 96) (.v (.k (.c (.bool true)))) (.t 104))⟩]
def f41b37 : AQ := (.seq (.region f41r36) f41b35)
def f41b38 : AQ := (.seq f41b37 (.keep [8, 9, 10, 12, 13, 50, 51] [25, 44, 47, 49, 45000, 45001, 45002, 48000, 48001, 48002] f41b34))
def f41r39 : List AI := [⟨none, (.bin 93 .add (.t 63) (.v (.k (.c (.int .i64 1)))))⟩, ⟨none, (.mov 63 (.t 93))⟩]
def f41r40 : List AI := [⟨none, (.mov 89 (.t 10))⟩, ⟨none, (.mov 90 (.t 15))⟩, ⟨none, (.iaddr 91 1 (.t 89) (.t 90))⟩, ⟨none, (.load 92 1 false (.t 91))⟩, ⟨none, (.mov 13 (.t 92))⟩]
def f41b41 : AQ := (.cond (.t 88) (.region f41r40) .skip)
def f41r42 : List AI := [⟨none, (.mov 67 (.t 15))⟩, ⟨none, (.mov 68 (.t 12))⟩, ⟨none, (.bin 69 .geq (.t 67) (.t 68))⟩, ⟨none, (.mov 70 (.t 69))⟩, ⟨(some (70, true)), (.mov 71 (.t 10))⟩, ⟨(some (70, true)), (.mov 72 (.t 15))⟩, ⟨(some (70, true)), (.iaddr 73 1 (.t 71) (.t 72))⟩, ⟨(some (70, true)), (.load 74 1 false (.t 73))⟩, ⟨(some (70, true)), (.bin 75 .gtr (.t 74) (.v (.k (.c (.int .i64 0)))))⟩, ⟨none, (.pick 76 (.t 70) (.t 75) (.v (.k (.c (.bool false)))))⟩, ⟨none, (.mov 77 (.t 76))⟩, ⟨(some (77, true)), (.mov 78 (.t 13))⟩, ⟨(some (77, true)), (.bin 79 .eql (.t 78) (.v (.k (.c (.int .i64 0)))))⟩, ⟨(some (77, true)), (.mov 80 (.t 79))⟩, ⟨(some (80, false)), (.mov 81 (.t 10))⟩, ⟨(some (80, false)), (.mov 82 (.t 15))⟩, ⟨(some (80, false)), (.iaddr 83 1 (.t 81) (.t 82))⟩, ⟨(some (80, false)), (.load 84 1 false (.t 83))⟩, ⟨(some (80, false)), (.mov 85 (.t 13))⟩, ⟨(some (80, false)), (.bin 86 .lss (.t 84) (.t 85))⟩, ⟨(some (77, true)), (.pick 87 (.t 80) (.v (.k (.c (.bool true)))) (.t 86))⟩, ⟨none, (.pick 88 (.t 77) (.t 87) (.v (.k (.c (.bool false)))))⟩]
def f41b43 : AQ := (.seq (.region f41r42) f41b41)
def f41r44 : List AI := [⟨none, (.iaddr 65 1 (.t 61) (.t 63))⟩, ⟨none, (.load 66 1 false (.t 65))⟩, ⟨none, (.mov 15 (.t 66))⟩]
def f41b45 : AQ := (.seq (.region f41r44) f41b43)
def f41b46 : AQ := (.block 5 f41b45)
def f41b47 : AQ := (.seq f41b46 (.region f41r39))
def f41b48 : AQ := (.cond (.t 64) .skip (.exit 4))
def f41b49 : AQ := (.seq f41b48 f41b47)
def f41r50 : List AI := [⟨none, (.bin 64 .lss (.t 63) (.t 62))⟩]
def f41b51 : AQ := (.seq (.region f41r50) f41b49)
def f41l52 : AQ := .loop [8, 9, 10, 11, 12, 13, 50, 51, 61, 62, 63] [11, 25, 44, 47, 49, 107, 141, 45000, 45001, 45002, 48000, 48001, 48002] f41b51
def f41b53 : AQ := (.block 4 f41l52)
def f41r54 : List AI := [⟨none, (.mov 58 (.t 8))⟩, ⟨none, (.mov 59 (.t 12))⟩, ⟨none, (.iaddr 60 1 (.t 58) (.t 59))⟩, ⟨none, (.load 61 1 false (.t 60))⟩, ⟨none, (.len 62 (.t 61))⟩, ⟨none, (.mov 63 (.v (.k (.c (.int .i64 0)))))⟩]
def f41b55 : AQ := (.seq (.region f41r54) f41b53)
def f41b56 : AQ := (.seq f41b55 f41b38)
def f41r57 : List AI := [⟨none, (.mov 13 (.v (.k (.c (.int .i64 0)))))⟩]
def f41b58 : AQ := (.seq (.region f41r57) f41b56)
def f41r59 : List AI := [⟨none, (.mov 54 (.t 9))⟩, ⟨none, (.mov 55 (.t 12))⟩, ⟨none, (.mov 56 (.t 10))⟩, ⟨none, (.call (some 57) 52 [(.t 54), (.t 55), (.t 56)])⟩]
def f41b60 : AQ := (.seq (.region f41r59) f41b58)
def f41r61 : List AI := [⟨none, (.mov 53 (.t 51))⟩, ⟨none, (.mov 12 (.t 53))⟩]
def f41b62 : AQ := (.seq (.region f41r61) f41b60)
def f41b63 : AQ := (.block 3 f41b62)
def f41b64 : AQ := (.seq f41b63 (.region f41r3))
def f41b65 : AQ := (.cond (.t 52) .skip (.exit 2))
def f41b66 : AQ := (.seq f41b65 f41b64)
def f41r67 : List AI := [⟨none, (.bin 52 .lss (.t 51) (.t 50))⟩]
def f41b68 : AQ := (.seq (.region f41r67) f41b66)
def f41l69 : AQ := .loop [8, 9, 10, 11, 50, 51] [11, 25, 44, 47, 49, 107, 141, 45000, 45001, 45002, 48000, 48001, 48002] f41b68
def f41b70 : AQ := (.block 2 f41l69)
def f41r71 : List AI := [⟨none, (.mov 50 (.t 0))⟩, ⟨none, (.mov 51 (.v (.k (.c (.int .i64 0)))))⟩]
def f41b72 : AQ := (.seq (.region f41r71) f41b70)
def f41b73 : AQ := (.seq f41b72 f41b2)
def f41r74 : List AI := [⟨none, (.nilL 11 3 1)⟩]
def f41b75 : AQ := (.seq (.region f41r74) f41b73)
def f41r76 : List AI := [⟨none, (.mov 48 (.t 0))⟩, ⟨none, (.mkslice 49 3 1 8 [(.int .i64 0)] (.t 48) (.t 48))⟩, ⟨none, (.mov 10 (.t 49))⟩]
def f41b77 : AQ := (.seq (.region f41r76) f41b75)
def f41r78 : List AI := [⟨none, (.mov 42 (.t 0))⟩, ⟨none, (.mov 43 (.t 1))⟩, ⟨none, (.call (some 44) 51 [(.t 42), (.t 43)])⟩, ⟨none, (.mov 45 (.t 0))⟩, ⟨none, (.mov 46 (.t 5))⟩, ⟨none, (.call (some 47) 51 [(.t 45), (.t 46)])⟩, ⟨none, (.mov 8 (.t 44))⟩, ⟨none, (.mov 9 (.t 47))⟩]
def f41b79 : AQ := (.seq (.region f41r78) (.frz 47 (.frz 44 f41b77)))
def f41r80 : List AI := [⟨none, (.bin 41 .add (.t 28) (.v (.k (.c (.int .i64 1)))))⟩, ⟨none, (.mov 28 (.t 41))⟩]
def f41r81 : List AI := [⟨none, (.mov 33 (.t 5))⟩, ⟨none, (.mov 34 (.t 6))⟩, ⟨none, (.iaddrA 35 1 2 (.t 7) (.v (.k (.c (.int .i64 1)))))⟩, ⟨none, (.load 36 1 false (.t 35))⟩, ⟨none, (.iaddrA 37 1 2 (.t 7) (.v (.k (.c (.int .i64 0)))))⟩, ⟨none, (.load 38 1 false (.t 37))⟩, ⟨none, (.build 39 [(.int .i64 0), (.int .i64 0)] [(0, (1, (.t 36))), (1, (1, (.t 38)))])⟩, ⟨none, (.iaddr 40 2 (.t 33) (.t 34))⟩, ⟨none, (.store 2 (.t 40) (.t 39))⟩]
def f41r82 : List AI := [⟨none, (.mov 30 (.t 28))⟩, ⟨none, (.iaddr 31 2 (.t 26) (.t 28))⟩, ⟨none, (.load 32 2 true (.t 31))⟩, ⟨none, (.alloc 7 59 [(.int .i64 0), (.int .i64 0)])⟩, ⟨none, (.mov 6 (.t 30))⟩, ⟨none, (.store 2 (.t 7) (.t 32))⟩]
def f41b83 : AQ := (.seq (.region f41r82) (.region f41r81))
def f41b84 : AQ := (.block 1 f41b83)
def f41b85 : AQ := (.seq f41b84 (.region f41r80))
def f41b86 : AQ := (.cond (.t 29) .skip (.exit 0))
def f41b87 : AQ := (.seq f41b86 f41b85)
def f41r88 : List AI := [⟨none, (.bin 29 .lss (.t 28) (.t 27))⟩]
def f41b89 : AQ := (.seq (.region f41r88) f41b87)
def f41l90 : AQ := .loop [0, 1, 5, 26, 27, 28] [25] f41b89
def f41b91 : AQ := (.block 0 f41l90)
def f41r92 : List AI := [⟨none, (.mov 26 (.t 1))⟩, ⟨none, (.len 27 (.t 26))⟩, ⟨none, (.mov 28 (.v (.k (.c (.int .i64 0)))))⟩]
def f41b93 : AQ := (.seq (.region f41r92) f41b91)
def f41b94 : AQ := (.seq f41b93 (.frz 25 f41b79))
def f41r95 : List AI := [⟨none, (.mov 23 (.t 1))⟩, ⟨none, (.len 24 (.t 23))⟩, ⟨none, (.mkslice 25 59 2 16 [(.int .i64 0), (.int .i64 0)] (.t 24) (.t 24))⟩, ⟨none, (.mov 5 (.t 25))⟩]
def f41b96 : AQ := (.seq (.region f41r95) f41b94)
def f41r97 : List AI := [⟨none, (.nilL 4 3 1)⟩]
def f41b98 : AQ := (.seq (.region f41r97) .ret)
def f41b99 : AQ := (.cond (.t 22) f41b98 .skip)
def f41r100 : List AI := [⟨none, (.mov 19 (.t 0))⟩, ⟨none, (.mov 20 (.t 1))⟩, ⟨none, (.call (some 21) 50 [(.t 19), (.t 20)])⟩, ⟨none, (.un 22 .not (.t 21))⟩]
def f41b101 : AQ := (.seq (.region f41r100) f41b99)
def f41b102 : AQ := (.seq f41b101 f41b96)
def f41r103 : List AI := [⟨none, (.nilL 4 3 1)⟩]
def f41b104 : AQ := (.seq (.region f41r103) f41b102)
def f41 : AQ := f41b104
theorem hf41 : cFunc Try.prog 41 = some ⟨145, f41.erase, [(RX.t 4)]⟩ := by kernel_rfl
theorem okf41 : f41.ok = true := by kernel_rfl
def f47r1 : List AI := [⟨none, (.mov 7 (.t 0))⟩, ⟨none, (.mov 8 (.t 1))⟩, ⟨none, (.mov 9 (.t 2))⟩, ⟨none, (.call (some 10) 35 [(.t 7), (.t 8), (.t 9)])⟩, ⟨none, (.len 11 (.t 10))⟩, ⟨none, (.bin 12 .gtr (.t 11) (.v (.k (.c (.int .i64 1)))))⟩, ⟨none, (.mov 13 (.t 12))⟩, ⟨(some (13, true)), (.mov 14 (.t 0))⟩, ⟨(some (13, true)), (.mov 15 (.t 2))⟩, ⟨(some (13, true)), (.iaddr 16 6 (.t 14) (.t 15))⟩, ⟨(some (13, true)), (.faddr 17 1 (.t 16))⟩, ⟨(some (13, true)), (.load 18 1 false (.t 17))⟩, ⟨(some (13, true)), (.mov 19 (.t 0))⟩, ⟨(some (13, true)), (.mov 20 (.t 1))⟩, ⟨(some (13, true)), (.iaddr 21 6 (.t 19) (.t 20))⟩, ⟨(some (13, true)), (.faddr 22 0 (.t 21))⟩, ⟨(some (13, true)), (.load 23 1 false (.t 22))⟩, ⟨(some (13, true)), (.bin 24 .eql (.t 18) (.t 23))⟩, ⟨none, (.pick 25 (.t 13) (.t 24) (.v (.k (.c (.bool false)))))⟩, ⟨none, (.mov 6 (.t 25))⟩]
def f47b2 : AQ := (.seq (.draw f47r1 [[], [], [], [0, 1, 2], [3], [4], [5, 3], [6], [6], [7, 8, 6], [9, 6], [10, 6], [6], [6], [12, 13, 6], [14, 6], [15, 6], [11, 16, 6], [6, 17], [18, 6, 0, 1, 2, 3, 4, 5, 6, 7, 8, 9, 10, 11, 12, 13, 14, 15, 16, 17, 18]]) .ret)
def f47r3 : List AI := [⟨none, (.mov 6 (.v (.k (.c (.bool false)))))⟩]
def f47b4 : AQ := (.seq (.region f47r3) f47b2)
def f47 : AQ := f47b4
def f48r1 : List AI := [⟨none, (.mov 4 (.v (.k (.c (.bool false)))))⟩]
def f48b2 : AQ := (.seq (.region f48r1) .ret)
def f48r3 : List AI := [⟨none, (.mov 16 (.t 5))⟩, ⟨none, (.bin 17 .add (.t 16) (.v (.k (.c (.int .i64 1)))))⟩, ⟨none, (.mov 5 (.t 17))⟩]
def f48r4 : List AI := [⟨none, (.mov 27 (.t 0))⟩, ⟨none, (.mov 28 (.t 5))⟩, ⟨none, (.iaddr 29 1 (.t 27) (.t 28))⟩, ⟨none, (.load 30 1 false (.t 29))⟩, ⟨none, (.mov 31 (.t 1))⟩, ⟨none, (.mov 32 (.t 5))⟩, ⟨none, (.iaddr 33 1 (.t 31) (.t 32))⟩, ⟨none, (.load 34 1 false (.t 33))⟩, ⟨none, (.bin 35 .lss (.t 30) (.t 34))⟩, ⟨none, (.mov 4 (.t 35))⟩]
def f48b5 : AQ := (.seq (.draw f48r4 [[], [], [0, 1], [2], [], [], [4, 5], [6], [3, 7], [8, 0, 1, 2, 3, 4, 5, 6, 7, 8]]) .ret)
def f48b6 : AQ := (.cond (.t 26) f48b5 .skip)
def f48r7 : List AI := [⟨none, (.mov 18 (.t 0))⟩, ⟨none, (.mov 19 (.t 5))⟩, ⟨none, (.iaddr 20 1 (.t 18) (.t 19))⟩, ⟨none, (.load 21 1 false (.t 20))⟩, ⟨none, (.mov 22 (.t 1))⟩, ⟨none, (.mov 23 (.t 5))⟩, ⟨none, (.iaddr 24 1 (.t 22) (.t 23))⟩, ⟨none, (.load 25 1 false (.t 24))⟩, ⟨none, (.bin 26 .neq (.t 21) (.t 25))⟩]
def f48b8 : AQ := (.seq (.draw f48r7 [[], [], [0, 1], [2], [], [], [4, 5], [6], [3, 7]]) f48b6)
def f48b9 : AQ := (.block 1 f48b8)
def f48b10 : AQ := (.seq f48b9 (.region f48r3))
def f48b11 : AQ := (.cond (.t 15) .skip (.exit 0))
def f48r12 : List AI := [⟨none, (.mov 6 (.t 5))⟩, ⟨none, (.mov 7 (.t 0))⟩, ⟨none, (.len 8 (.t 7))⟩, ⟨none, (.bin 9 .lss (.t 6) (.t 8))⟩, ⟨none, (.mov 10 (.t 9))⟩, ⟨(some (10, true)), (.mov 11 (.t 5))⟩, ⟨(some (10, true)), (.mov 12 (.t 1))⟩, ⟨(some (10, true)), (.len 13 (.t 12))⟩, ⟨(some (10, true)), (.bin 14 .lss (.t 11) (.t 13))⟩, ⟨none, (.pick 15 (.t 10) (.t 14) (.v (.k (.c (.bool false)))))⟩]
def f48b13 : AQ := (.seq (.region f48r12) f48b11)
def f48b14 : AQ := (.seq f48b13 f48b10)
def f48l15 : AQ := .loop [0, 1, 5] [] f48b14
def f48b16 : AQ := (.block 0 f48l15)
def f48r17 : List AI := [⟨none, (.mov 5 (.v (.k (.c (.int .i64 0)))))⟩]
def f48b18 : AQ := (.seq (.region f48r17) f48b16)
def f48b19 : AQ := (.seq f48b18 f48b2)
def f48r20 : List AI := [⟨none, (.mov 4 (.v (.k (.c (.bool false)))))⟩]
def f48b21 : AQ := (.seq (.region f48r20) f48b19)
def f48 : AQ := f48b21
def f49r1 : List AI := [⟨none, (.mov 4 (.v (.k (.c (.int .i64 (-1))))))⟩]
def f49b2 : AQ := (.seq (.region f49r1) .ret)
def f49r3 : List AI := [⟨none, (.bin 18 .add (.t 8) (.v (.k (.c (.int .i64 1)))))⟩, ⟨none, (.mov 8 (.t 18))⟩]
def f49r4 : List AI := [⟨none, (.mov 17 (.t 5))⟩, ⟨none, (.mov 4 (.t 17))⟩]
def f49b5 : AQ := (.seq (.region f49r4) .ret)
def f49b6 : AQ := (.cond (.t 16) f49b5 .skip)
def f49r7 : List AI := [⟨none, (.mov 11 (.t 1))⟩, ⟨none, (.mov 12 (.t 0))⟩, ⟨none, (.mov 13 (.t 5))⟩, ⟨none, (.iaddr 14 3 (.t 12) (.t 13))⟩, ⟨none, (.load 15 3 true (.t 14))⟩, ⟨none, (.callv (some 16) (.t 11) [(.t 15)])⟩]
def f49b8 : AQ := (.seq (.region f49r7) f49b6)
def f49r9 : List AI := [⟨none, (.mov 10 (.t 8))⟩, ⟨none, (.mov 5 (.t 10))⟩]
def f49b10 : AQ := (.seq (.region f49r9) f49b8)
def f49b11 : AQ := (.block 1 f49b10)
def f49b12 : AQ := (.seq f49b11 (.region f49r3))
def f49b13 : AQ := (.cond (.t 9) .skip (.exit 0))
def f49b14 : AQ := (.seq f49b13 f49b12)
def f49r15 : List AI := [⟨none, (.bin 9 .lss (.t 8) (.t 7))⟩]
def f49b16 : AQ := (.seq (.region f49r15) f49b14)
def f49l17 : AQ := .loop [0, 1, 7, 8] [] f49b16
def f49b18 : AQ := (.block 0 f49l17)
def f49r19 : List AI := [⟨none, (.mov 6 (.t 0))⟩, ⟨none, (.len 7 (.t 6))⟩, ⟨none, (.mov 8 (.v (.k (.c (.int .i64 0)))))⟩]
def f49b20 : AQ := (.seq (.region f49r19) f49b18)
def f49b21 : AQ := (.seq f49b20 f49b2)
def f49r22 : List AI := [⟨none, (.mov 4 (.v (.k (.c (.int .i64 0)))))⟩]
def f49b23 : AQ := (.seq (.region f49r22) f49b21)
def f49 : AQ := f49b23
theorem hf49 : cFunc Try.prog 49 = some ⟨19, f49.erase, [(RX.t 4)]⟩ := by kernel_rfl
theorem okf49 : f49.ok = true := by kernel_rfl
def f50r1 : List AI := [⟨none, (.mov 4 (.v (.k (.c (.bool true)))))⟩]
def f50b2 : AQ := (.seq (.region f50r1) .ret)
def f50r3 : List AI := [⟨none, (.bin 44 .add (.t 20) (.v (.k (.c (.int .i64 1)))))⟩, ⟨none, (.mov 20 (.t 44))⟩]
def f50r4 : List AI := [⟨none, (.mov 4 (.v (.k (.c (.bool false)))))⟩]
def f50b5 : AQ := (.seq (.region f50r4) .ret)
def f50b6 : AQ := (.cond (.t 43) f50b5 .skip)
def f50r7 : List AI := [⟨none, (.iaddrA 24 1 2 (.t 6) (.v (.k (.c (.int .i64 0)))))⟩, ⟨none, (.load 25 1 false (.t 24))⟩, ⟨none, (.bin 26 .lss (.t 25) (.v (.k (.c (.int .i64 0)))))⟩, ⟨none, (.mov 27 (.t 26))⟩, ⟨(some (27, false)), (.iaddrA 28 1 2 (.t 6) (.v (.k (.c (.int .i64 0)))))⟩, ⟨(some (27, false)), (.load 29 1 false (.t 28))⟩, ⟨(some (27, false)), (.mov 30 (.t 0))⟩, ⟨(some (27, false)), (.bin 31 .geq (.t 29) (.t 30))⟩, ⟨none, (.pick 32 (.t 27) (.v (.k (.c (.bool true)))) (.t 31))⟩, ⟨none, (.mov 33 (.t 32))⟩, ⟨(some (33, false)), (.iaddrA 34 1 2 (.t 6) (.v (.k (.c (.int .i64 1)))))⟩, ⟨(some (33, false)), (.load 35 1 false (.t 34))⟩, ⟨(some (33, false)), (.bin 36 .lss (.t 35) (.v (.k (.c (.int .i64 0)))))⟩, ⟨none, (.pick 37 (.t 33) (.v (.k (.c (.bool true)))) (.t 36))⟩, ⟨none, (.mov 38 (.t 37))⟩, ⟨(some (38, false)), (.iaddrA 39 1 2 (.t 6) (.v (.k (.c (.int .i64 1)))))⟩, ⟨(some (38, false)), (.load 40 1 false (.t 39))⟩, ⟨(some (38, false)), (.mov 41 (.t 0))⟩, ⟨(some (38, false)), (.bin 42 .geq (.t 40) (.t 41))⟩, ⟨none, (.pick 43 (.t 38) (.v (.k (.c (.bool true)))) (.t 42))⟩]
def f50b8 : AQ := (.seq (.region f50r7) f50b6)
def f50r9 : List AI := [⟨none, (.iaddr 22 2 (.t 18) (.t 20))⟩, ⟨none, (.load 23 2 true (.t 22))⟩, ⟨none, (.alloc 6 59 [(.int .i64 0), (.int .i64 0)])⟩, ⟨none, (.store 2 (.t 6) (.t 23))⟩]
def f50b10 : AQ := (.seq (.region f50r9) f50b8)
def f50b11 : AQ := (.block 1 f50b10)
def f50b12 : AQ := (.seq f50b11 (.region f50r3))
def f50b13 : AQ := (.cond (.t 21) .skip (.exit 0))
def f50b14 : AQ := (.seq f50b13 f50b12)
def f50r15 : List AI := [⟨none, (.bin 21 .lss (.t 20) (.t 19))⟩]
def f50b16 : AQ := (.seq (.region f50r15) f50b14)
def f50l17 : AQ := .loop [0, 18, 19, 20] [] f50b16
def f50b18 : AQ := (.block 0 f50l17)
def f50r19 : List AI := [⟨none, (.mov 18 (.t 1))⟩, ⟨none, (.len 19 (.t 18))⟩, ⟨none, (.mov 20 (.v (.k (.c (.int .i64 0)))))⟩]
def f50b20 : AQ := (.seq (.region f50r19) f50b18)
def f50b21 : AQ := (.seq f50b20 f50b2)
def f50r22 : List AI := [⟨none, (.mov 4 (.v (.k (.c (.bool false)))))⟩]
def f50b23 : AQ := (.seq (.region f50r22) .ret)
def f50b24 : AQ := (.cond (.t 17) f50b23 .skip)
def f50r25 : List AI := [⟨none, (.mov 7 (.t 0))⟩, ⟨none, (.bin 8 .lss (.t 7) (.v (.k (.c (.int .i64 0)))))⟩, ⟨none, (.mov 9 (.t 8))⟩, ⟨(some (9, false)), (.mov 10 (.t 0))⟩, ⟨(some (9, false)), (.bin 11 .gtr (.t 10) (.v (.k (.c (.int .i64 300)))))⟩, ⟨none, (.pick 12 (.t 9) (.v (.k (.c (.bool true)))) (.t 11))⟩, ⟨none, (.mov 13 (.t 12))⟩, ⟨(some (13, false)), (.mov 14 (.t 1))⟩, ⟨(some (13, false)), (.len 15 (.t 14))⟩, ⟨(some (13, false)), (.bin 16 .gtr (.t 15) (.v (.k (.c (.int .i64 2000)))))⟩, ⟨none, (.pick 17 (.t 13) (.v (.k (.c (.bool true)))) (.t 16))⟩]
def f50b26 : AQ := (.seq (.region f50r25) f50b24)
def f50b27 : AQ := (.seq f50b26 f50b21)
def f50r28 : List AI := [⟨none, (.mov 4 (.v (.k (.c (.bool false)))))⟩]
def f50b29 : AQ := (.seq (.region f50r28) f50b27)
def f50 : AQ := f50b29
theorem hf50 : cFunc Try.prog 50 = some ⟨45, f50.erase, [(RX.t 4)]⟩ := by kernel_rfl
theorem okf50 : f50.ok = true := by kernel_rfl
def f7r1 : List AI := [⟨none, (.mov 199 (.t 7))⟩, ⟨none, (.mov 200 (.t 199))⟩, ⟨(some (200, true)), (.mov 201 (.t 20))⟩, ⟨(some (200, true)), (.mov 202 (.t 21))⟩, ⟨(some (200, true)), (.call (some 203) 12 [(.t 201), (.t 202)])⟩, ⟨(some (200, true)), (.mov 204 (.t 0))⟩, ⟨(some (200, true)), (.mov 205 (.t 21))⟩, ⟨(some (200, true)), (.call (some 206) 12 [(.t 204), (.t 205)])⟩, ⟨(some (200, true)), (.bin 207 .leq (.t 203) (.t 206))⟩, ⟨none, (.pick 208 (.t 200) (.t 207) (.v (.k (.c (.bool false)))))⟩, ⟨none, (.mov 6 (.t 208))⟩]
def f7b2 : AQ := (.seq (.region f7r1) .ret)
def f7r3 : List AI := [⟨none, (.mov 194 (.t 0))⟩, ⟨none, (.mov 195 (.t 14))⟩, ⟨none, (.iaddr 196 6 (.t 194) (.t 195))⟩, ⟨none, (.faddr 197 5 (.t 196))⟩, ⟨none, (.load 198 1 false (.t 197))⟩, ⟨none, (.mov 21 (.t 198))⟩]
def f7b4 : AQ := (.seq (.region f7r3) f7b2)
def f7r5 : List AI := [⟨none, (.mov 181 (.t 20))⟩, ⟨none, (.mov 182 (.t 14))⟩, ⟨none, (.mov 183 (.t 0))⟩, ⟨none, (.mov 184 (.t 14))⟩, ⟨none, (.iaddr 185 6 (.t 183) (.t 184))⟩, ⟨none, (.faddr 186 2 (.t 185))⟩, ⟨none, (.load 187 1 false (.t 186))⟩, ⟨none, (.mov 188 (.t 2))⟩, ⟨none, (.conv 189 .i64 (.t 188))⟩, ⟨none, (.bin 190 .add (.t 187) (.t 189))⟩, ⟨none, (.minmax 191 false (.v (.k (.c (.int .i64 1099511627776)))) [(.t 190)])⟩, ⟨none, (.iaddr 192 6 (.t 181) (.t 182))⟩, ⟨none, (.faddr 193 2 (.t 192))⟩, ⟨none, (.store 1 (.t 193) (.t 191))⟩]
def f7b6 : AQ := (.seq (.region f7r5) f7b4)
def f7r7 : List AI := [⟨none, (.bslice 178 40 6 [(.int .i64 0), (.int .i64 0), (.int .i64 0), (.int .i64 0), (.int .i64 0), (.int .i64 0)] 0 [])⟩, ⟨none, (.mov 179 (.t 0))⟩, ⟨none, (.append 180 40 6 48 (.t 178) (.t 179))⟩, ⟨none, (.mov 20 (.t 180))⟩]
def f7b8 : AQ := (.seq (.region f7r7) f7b6)
def f7r9 : List AI := [⟨none, (.mov 144 (.t 17))⟩, ⟨none, (.bin 145 .add (.t 144) (.v (.k (.c (.int .i64 1)))))⟩, ⟨none, (.mov 17 (.t 145))⟩]
def f7r10 : List AI := [⟨none, (.mov 6 (.v (.k (.c (.bool false)))))⟩]
def f7b11 : AQ := (.seq (.region f7r10) .ret)
def f7b12 : AQ := (.cond (.t 177) f7b11 .skip)
def f7r13 : List AI := [⟨none, (.mov 166 (.t 18))⟩, ⟨none, (.un 167 .not (.t 166))⟩, ⟨none, (.mov 168 (.t 167))⟩, ⟨(some (168, false)), (.mov 169 (.t 16))⟩, ⟨(some (168, false)), (.mov 170 (.t 17))⟩, ⟨(some (168, false)), (.iaddr 171 3 (.t 169) (.t 170))⟩, ⟨(some (168, false)), (.faddr 172 0 (.t 171))⟩, ⟨(some (168, false)), (.load 173 1 false (.t 172))⟩, ⟨(some (168, false)), (.faddr 174 0 (.t 13))⟩, ⟨(some (168, false)), (.load 175 1 false (.t 174))⟩, ⟨(some (168, false)), (.call (some 176) 19 [(.t 173), (.t 175)])⟩, ⟨none, (.pick 177 (.t 168) (.v (.k (.c (.bool true)))) (.t 176))⟩]
def f7b14 : AQ := (.seq (.draw f7r13 [[], [0], [1], [2], [2], [3, 4, 2], [5, 2], [6, 2], [2], [8, 2], [7, 9, 2, 2], [2, 10]]) f7b12)
def f7r15 : List AI := [⟨none, (.mov 150 (.t 19))⟩, ⟨none, (.bin 151 .add (.t 150) (.v (.k (.c (.int .i64 1)))))⟩, ⟨none, (.mov 19 (.t 151))⟩]
def f7r16 : List AI := [⟨none, (.mov 152 (.t 18))⟩, ⟨none, (.mov 153 (.t 152))⟩, ⟨(some (153, false)), (.mov 154 (.t 16))⟩, ⟨(some (153, false)), (.mov 155 (.t 17))⟩, ⟨(some (153, false)), (.iaddr 156 3 (.t 154) (.t 155))⟩, ⟨(some (153, false)), (.faddr 157 0 (.t 156))⟩, ⟨(some (153, false)), (.load 158 1 false (.t 157))⟩, ⟨(some (153, false)), (.mov 159 (.t 12))⟩, ⟨(some (153, false)), (.mov 160 (.t 19))⟩, ⟨(some (153, false)), (.iaddr 161 3 (.t 159) (.t 160))⟩, ⟨(some (153, false)), (.faddr 162 0 (.t 161))⟩, ⟨(some (153, false)), (.load 163 1 false (.t 162))⟩, ⟨(some (153, false)), (.call (some 164) 19 [(.t 158), (.t 163)])⟩, ⟨none, (.pick 165 (.t 153) (.v (.k (.c (.bool true)))) (.t 164))⟩, ⟨none, (.mov 18 (.t 165))⟩]
def f7b17 : AQ := (.block 7 (.draw f7r16 [[], [0], [1], [1], [2, 3, 1], [4, 1], [5, 1], [1], [1], [7, 8, 1], [9, 1], [10, 1], [6, 11, 1, 1], [1, 12], [13, 12, 0, 1, 2, 3, 4, 5, 6, 7, 8, 9, 10, 11, 12, 13]]))
def f7b18 : AQ := (.seq f7b17 (.region f7r15))
def f7b19 : AQ := (.cond (.t 149) .skip (.exit 6))
def f7r20 : List AI := [⟨none, (.mov 146 (.t 19))⟩, ⟨none, (.mov 147 (.t 12))⟩, ⟨none, (.len 148 (.t 147))⟩, ⟨none, (.bin 149 .lss (.t 146) (.t 148))⟩]
def f7b21 : AQ := (.seq (.region f7r20) f7b19)
def f7b22 : AQ := (.seq f7b21 f7b18)
def f7l23 : AQ := .loop [0, 2, 7, 12, 13, 14, 16, 17, 18, 19] [13, 99, 131, 133, 139, 100000, 100001, 100002, 140000, 140001, 140002] f7b22
def f7b24 : AQ := (.block 6 f7l23)
def f7r25 : List AI := [⟨none, (.mov 19 (.v (.k (.c (.int .i64 0)))))⟩]
def f7b26 : AQ := (.seq (.region f7r25) f7b24)
def f7b27 : AQ := (.seq f7b26 f7b14)
def f7r28 : List AI := [⟨none, (.mov 18 (.v (.k (.c (.bool false)))))⟩]
def f7b29 : AQ := (.seq (.region f7r28) f7b27)
def f7b30 : AQ := (.block 5 f7b29)
def f7b31 : AQ := (.seq f7b30 (.region f7r9))
def f7b32 : AQ := (.cond (.t 143) .skip (.exit 4))
def f7r33 : List AI := [⟨none, (.mov 140 (.t 17))⟩, ⟨none, (.mov 141 (.t 16))⟩, ⟨none, (.len 142 (.t 141))⟩, ⟨none, (.bin 143 .lss (.t 140) (.t 142))⟩]
def f7b34 : AQ := (.seq (.region f7r33) f7b32)
def f7b35 : AQ := (.seq f7b34 f7b31)
def f7l36 : AQ := .loop [0, 2, 7, 12, 13, 14, 16, 17] [13, 99, 131, 133, 139, 100000, 100001, 100002, 140000, 140001, 140002] f7b35
def f7b37 : AQ := (.block 4 f7l36)
def f7r38 : List AI := [⟨none, (.mov 17 (.v (.k (.c (.int .i64 0)))))⟩]
def f7b39 : AQ := (.seq (.region f7r38) f7b37)
def f7b40 : AQ := (.seq f7b39 f7b8)
def f7r41 : List AI := [⟨none, (.mov 138 (.t 15))⟩, ⟨none, (.call (some 139) 15 [(.t 138)])⟩, ⟨none, (.mov 16 (.t 139))⟩]
def f7b42 : AQ := (.seq (.region f7r41) f7b40)
def f7r43 : List AI := [⟨none, (.mov 134 (.t 15))⟩, ⟨none, (.mov 135 (.t 14))⟩, ⟨none, (.iaddr 136 6 (.t 134) (.t 135))⟩, ⟨none, (.faddr 137 5 (.t 136))⟩, ⟨none, (.store 1 (.t 137) (.v (.k (.c (.int .i64 (-1))))))⟩]
def f7b44 : AQ := (.seq (.region f7r43) f7b42)
def f7r45 : List AI := [⟨none, (.bslice 131 40 6 [(.int .i64 0), (.int .i64 0), (.int .i64 0), (.int .i64 0), (.int .i64 0), (.int .i64 0)] 0 [])⟩, ⟨none, (.mov 132 (.t 0))⟩, ⟨none, (.append 133 40 6 48 (.t 131) (.t 132))⟩, ⟨none, (.mov 15 (.t 133))⟩]
def f7b46 : AQ := (.seq (.region f7r45) f7b44)
def f7r47 : List AI := [⟨none, (.faddr 123 0 (.t 13))⟩, ⟨none, (.load 124 1 false (.t 123))⟩, ⟨none, (.faddr 125 0 (.t 13))⟩, ⟨none, (.load 126 1 false (.t 125))⟩, ⟨none, (.len 127 (.t 126))⟩, ⟨none, (.bin 128 .sub (.t 127) (.v (.k (.c (.int .i64 1)))))⟩, ⟨none, (.iaddr 129 1 (.t 124) (.t 128))⟩, ⟨none, (.load 130 1 false (.t 129))⟩, ⟨none, (.mov 14 (.t 130))⟩]
def f7b48 : AQ := (.seq (.region f7r47) f7b46)
def f7r49 : List AI := [⟨none, (.mov 6 (.v (.k (.c (.bool false)))))⟩]
def f7b50 : AQ := (.seq (.region f7r49) .ret)
def f7b51 : AQ := (.cond (.t 122) f7b50 .skip)
def f7r52 : List AI := [⟨none, (.faddr 112 0 (.t 13))⟩, ⟨none, (.load 113 1 false (.t 112))⟩, ⟨none, (.len 114 (.t 113))⟩, ⟨none, (.bin 115 .lss (.t 114) (.v (.k (.c (.int .i64 2)))))⟩, ⟨none, (.mov 116 (.t 115))⟩, ⟨(some (116, false)), (.mov 117 (.t 0))⟩, ⟨(some (116, false)), (.faddr 118 0 (.t 13))⟩, ⟨(some (116, false)), (.load 119 1 false (.t 118))⟩, ⟨(some (116, false)), (.call (some 120) 22 [(.t 117), (.t 119)])⟩, ⟨(some (116, false)), (.un 121 .not (.t 120))⟩, ⟨none, (.pick 122 (.t 116) (.v (.k (.c (.bool true)))) (.t 121))⟩]
def f7b53 : AQ := (.seq (.region f7r52) f7b51)
def f7b54 : AQ := (.seq f7b53 f7b48)
def f7r55 : List AI := [⟨none, (.mov 104 (.t 12))⟩, ⟨none, (.mov 105 (.t 1))⟩, ⟨none, (.conv 106 .i64 (.t 105))⟩, ⟨none, (.mov 107 (.t 12))⟩, ⟨none, (.len 108 (.t 107))⟩, ⟨none, (.bin 109 .rem (.t 106) (.t 108))⟩, ⟨none, (.iaddr 110 3 (.t 104) (.t 109))⟩, ⟨none, (.load 111 3 true (.t 110))⟩, ⟨none, (.alloc 13 25 [(.list 0 (some true) []), (.list 0 (some true) []), (.int .i64 0)])⟩, ⟨none, (.store 3 (.t 13) (.t 111))⟩]
def f7b56 : AQ := (.seq (.region f7r55) f7b54)
def f7r57 : List AI := [⟨none, (.mov 103 (.t 7))⟩, ⟨none, (.mov 6 (.t 103))⟩]
def f7b58 : AQ := (.seq (.region f7r57) .ret)
def f7b59 : AQ := (.cond (.t 102) f7b58 .skip)
def f7r60 : List AI := [⟨none, (.mov 100 (.t 12))⟩, ⟨none, (.len 101 (.t 100))⟩, ⟨none, (.bin 102 .eql (.t 101) (.v (.k (.c (.int .i64 0)))))⟩]
def f7b61 : AQ := (.seq (.region f7r60) f7b59)
def f7b62 : AQ := (.seq f7b61 f7b56)
def f7r63 : List AI := [⟨none, (.mov 98 (.t 0))⟩, ⟨none, (.call (some 99) 15 [(.t 98)])⟩, ⟨none, (.mov 12 (.t 99))⟩]
def f7b64 : AQ := (.seq (.region f7r63) f7b62)
def f7r65 : List AI := [⟨none, (.mov 36 (.t 8))⟩, ⟨none, (.bin 37 .add (.t 36) (.v (.k (.c (.int .i64 1)))))⟩, ⟨none, (.mov 8 (.t 37))⟩]
def f7r66 : List AI := [⟨none, (.mov 6 (.v (.k (.c (.bool false)))))⟩]
def f7b67 : AQ := (.seq (.region f7r66) .ret)
def f7b68 : AQ := (.cond (.t 97) f7b67 .skip)
def f7r69 : List AI := [⟨none, (.mov 61 (.t 11))⟩, ⟨none, (.bin 62 .lss (.t 61) (.v (.k (.c (.int .i64 0)))))⟩, ⟨none, (.mov 63 (.t 62))⟩, ⟨(some (63, false)), (.mov 64 (.t 11))⟩, ⟨(some (63, false)), (.mov 65 (.t 0))⟩, ⟨(some (63, false)), (.mov 66 (.t 8))⟩, ⟨(some (63, false)), (.iaddr 67 6 (.t 65) (.t 66))⟩, ⟨(some (63, false)), (.faddr 68 2 (.t 67))⟩, ⟨(some (63, false)), (.load 69 1 false (.t 68))⟩, ⟨(some (63, false)), (.bin 70 .gtr (.t 64) (.t 69))⟩, ⟨none, (.pick 71 (.t 63) (.v (.k (.c (.bool true)))) (.t 70))⟩, ⟨none, (.mov 72 (.t 71))⟩, ⟨(some (72, false)), (.mov 73 (.t 11))⟩, ⟨(some (72, false)), (.mov 74 (.t 9))⟩, ⟨(some (72, false)), (.bin 75 .add (.t 73) (.t 74))⟩, ⟨(some (72, false)), (.mov 76 (.t 0))⟩, ⟨(some (72, false)), (.mov 77 (.t 8))⟩, ⟨(some (72, false)), (.iaddr 78 6 (.t 76) (.t 77))⟩, ⟨(some (72, false)), (.faddr 79 2 (.t 78))⟩, ⟨(some (72, false)), (.load 80 1 false (.t 79))⟩, ⟨(some (72, false)), (.bin 81 .lss (.t 75) (.t 80))⟩, ⟨none, (.pick 82 (.t 72) (.v (.k (.c (.bool true)))) (.t 81))⟩, ⟨none, (.mov 83 (.t 82))⟩, ⟨(some (83, false)), (.mov 84 (.t 11))⟩, ⟨(some (83, false)), (.bin 85 .gtr (.t 84) (.v (.k (.c (.int .i64 0)))))⟩, ⟨(some (83, false)), (.mov 86 (.t 85))⟩, ⟨(some (86, true)), (.mov 87 (.t 11))⟩, ⟨(some (86, true)), (.mov 88 (.t 9))⟩, ⟨(some (86, true)), (.bin 89 .add (.t 87) (.t 88))⟩, ⟨(some (86, true)), (.mov 90 (.t 0))⟩, ⟨(some (86, true)), (.mov 91 (.t 8))⟩, ⟨(some (86, true)), (.iaddr 92 6 (.t 90) (.t 91))⟩, ⟨(some (86, true)), (.faddr 93 2 (.t 92))⟩, ⟨(some (86, true)), (.load 94 1 false (.t 93))⟩, ⟨(some (86, true)), (.bin 95 .neq (.t 89) (.t 94))⟩, ⟨(some (83, false)), (.pick 96 (.t 86) (.t 95) (.v (.k (.c (.bool false)))))⟩, ⟨none, (.pick 97 (.t 83) (.v (.k (.c (.bool true)))) (.t 96))⟩]
def f7b70 : AQ := (.seq (.region f7r69) f7b68)
def f7r71 : List AI := [⟨none, (.mov 58 (.t 0))⟩, ⟨none, (.mov 59 (.t 8))⟩, ⟨none, (.call (some 60) 12 [(.t 58), (.t 59)])⟩, ⟨none, (.mov 11 (.t 60))⟩]
def f7b72 : AQ := (.seq (.region f7r71) f7b70)
def f7r73 : List AI := [⟨none, (.mov 42 (.t 10))⟩, ⟨none, (.bin 43 .add (.t 42) (.v (.k (.c (.int .i64 1)))))⟩, ⟨none, (.mov 10 (.t 43))⟩]
def f7r74 : List AI := [⟨none, (.mov 51 (.t 9))⟩, ⟨none, (.mov 52 (.t 0))⟩, ⟨none, (.mov 53 (.t 10))⟩, ⟨none, (.iaddr 54 6 (.t 52) (.t 53))⟩, ⟨none, (.faddr 55 2 (.t 54))⟩, ⟨none, (.load 56 1 false (.t 55))⟩, ⟨none, (.bin 57 .add (.t 51) (.t 56))⟩, ⟨none, (.mov 9 (.t 57))⟩]
def f7b75 : AQ := (.cond (.t 50) (.region f7r74) .skip)
def f7r76 : List AI := [⟨none, (.mov 44 (.t 0))⟩, ⟨none, (.mov 45 (.t 10))⟩, ⟨none, (.iaddr 46 6 (.t 44) (.t 45))⟩, ⟨none, (.faddr 47 5 (.t 46))⟩, ⟨none, (.load 48 1 false (.t 47))⟩, ⟨none, (.mov 49 (.t 8))⟩, ⟨none, (.bin 50 .eql (.t 48) (.t 49))⟩]
def f7b77 : AQ := (.seq (.region f7r76) f7b75)
def f7b78 : AQ := (.block 3 f7b77)
def f7b79 : AQ := (.seq f7b78 (.region f7r73))
def f7b80 : AQ := (.cond (.t 41) .skip (.exit 2))
def f7r81 : List AI := [⟨none, (.mov 38 (.t 10))⟩, ⟨none, (.mov 39 (.t 0))⟩, ⟨none, (.len 40 (.t 39))⟩, ⟨none, (.bin 41 .lss (.t 38) (.t 40))⟩]
def f7b82 : AQ := (.seq (.region f7r81) f7b80)
def f7b83 : AQ := (.seq f7b82 f7b79)
def f7l84 : AQ := .loop [0, 1, 2, 7, 8, 9, 10] [] f7b83
def f7b85 : AQ := (.block 2 f7l84)
def f7r86 : List AI := [⟨none, (.mov 10 (.v (.k (.c (.int .i64 0)))))⟩]
def f7b87 : AQ := (.seq (.region f7r86) f7b85)
def f7b88 : AQ := (.seq f7b87 f7b72)
def f7r89 : List AI := [⟨none, (.mov 9 (.v (.k (.c (.int .i64 0)))))⟩]
def f7b90 : AQ := (.seq (.region f7r89) f7b88)
def f7b91 : AQ := (.block 1 f7b90)
def f7b92 : AQ := (.seq f7b91 (.region f7r65))
def f7b93 : AQ := (.cond (.t 35) .skip (.exit 0))
def f7r94 : List AI := [⟨none, (.mov 32 (.t 8))⟩, ⟨none, (.mov 33 (.t 0))⟩, ⟨none, (.len 34 (.t 33))⟩, ⟨none, (.bin 35 .lss (.t 32) (.t 34))⟩]
def f7b95 : AQ := (.seq (.region f7r94) f7b93)
def f7b96 : AQ := (.seq f7b95 f7b92)
def f7l97 : AQ := .loop [0, 1, 2, 7, 8] [] f7b96
def f7b98 : AQ := (.block 0 f7l97)
def f7r99 : List AI := [⟨none, (.mov 8 (.v (.k (.c (.int .i64 0)))))⟩]
def f7b100 : AQ := (.seq (.region f7r99) f7b98)
def f7b101 : AQ := (.seq f7b100 f7b64)
def f7r102 : List AI := [⟨none, (.mov 31 (.t 7))⟩, ⟨none, (.mov 6 (.t 31))⟩]
def f7b103 : AQ := (.seq (.region f7r102) .ret)
def f7b104 : AQ := (.cond (.t 30) f7b103 .skip)
def f7r105 : List AI := [⟨none, (.mov 23 (.t 0))⟩, ⟨none, (.len 24 (.t 23))⟩, ⟨none, (.bin 25 .gtr (.t 24) (.v (.k (.c (.int .i64 20)))))⟩, ⟨none, (.mov 26 (.t 25))⟩, ⟨(some (26, false)), (.mov 27 (.t 0))⟩, ⟨(some (26, false)), (.call (some 28) 10 [(.t 27)])⟩, ⟨(some (26, false)), (.bin 29 .neq (.t 28) (.v (.k (.c (.int .i64 0)))))⟩, ⟨none, (.pick 30 (.t 26) (.v (.k (.c (.bool true)))) (.t 29))⟩]
def f7b106 : AQ := (.seq (.region f7r105) f7b104)
def f7b107 : AQ := (.seq f7b106 f7b101)
def f7r108 : List AI := [⟨none, (.call (some 22) 8 [])⟩, ⟨none, (.mov 7 (.t 22))⟩]
def f7b109 : AQ := (.seq (.region f7r108) f7b107)
def f7r110 : List AI := [⟨none, (.mov 6 (.v (.k (.c (.bool false)))))⟩]
def f7b111 : AQ := (.seq (.region f7r110) f7b109)
def f7 : AQ := f7b111
theorem hf7 : cFunc Try.prog 7 = some ⟨209, f7.erase, [(RX.t 6)]⟩ := by kernel_rfl
theorem okf7 : f7.ok = true := by kernel_rfl
def f8r1 : List AI := [⟨none, (.mov 58 (.t 3))⟩, ⟨none, (.mov 59 (.t 58))⟩, ⟨(some (59, true)), (.mov 60 (.t 4))⟩, ⟨none, (.pick 61 (.t 59) (.t 60) (.v (.k (.c (.bool false)))))⟩, ⟨none, (.mov 62 (.t 61))⟩, ⟨(some (62, true)), (.mov 63 (.t 1))⟩, ⟨(some (62, true)), (.call (some 64) 10 [(.t 63)])⟩, ⟨(some (62, true)), (.bin 65 .eql (.t 64) (.v (.k (.c (.int .i64 2)))))⟩, ⟨none, (.pick 66 (.t 62) (.t 65) (.v (.k (.c (.bool false)))))⟩, ⟨none, (.mov 67 (.t 66))⟩, ⟨(some (67, true)), (.call (some 68) 10 [(.v (.k (.c (.list 0 (some true) []))))])⟩, ⟨(some (67, true)), (.bin 69 .eql (.t 68) (.v (.k (.c (.int .i64 0)))))⟩, ⟨none, (.pick 70 (.t 67) (.t 69) (.v (.k (.c (.bool false)))))⟩, ⟨none, (.mov 71 (.t 70))⟩, ⟨(some (71, true)), (.mov 72 (.t 1))⟩, ⟨(some (71, true)), (.call (some 73) 15 [(.t 72)])⟩, ⟨(some (71, true)), (.len 74 (.t 73))⟩, ⟨(some (71, true)), (.bin 75 .eql (.t 74) (.v (.k (.c (.int .i64 0)))))⟩, ⟨none, (.pick 76 (.t 71) (.t 75) (.v (.k (.c (.bool false)))))⟩, ⟨none, (.mov 0 (.t 76))⟩]
def f8b2 : AQ := (.seq (.region f8r1) .ret)
def f8r3 : List AI := [⟨none, (.mov 55 (.t 1))⟩, ⟨none, (.iaddr 56 6 (.t 55) (.v (.k (.c (.int .i64 2)))))⟩, ⟨none, (.faddr 57 5 (.t 56))⟩, ⟨none, (.store 1 (.t 57) (.v (.k (.c (.int .i64 2)))))⟩]
def f8b4 : AQ := (.seq (.region f8r3) f8b2)
def f8r5 : List AI := [⟨none, (.mov 33 (.t 1))⟩, ⟨none, (.call (some 34) 15 [(.t 33)])⟩, ⟨none, (.bslice 35 3 1 [(.int .i64 0)] 2 [(0, (.v (.k (.c (.int .i64 1))))), (1, (.v (.k (.c (.int .i64 2)))))])⟩, ⟨none, (.bslice 36 3 1 [(.int .i64 0)] 2 [(0, (.v (.k (.c (.int .i64 2))))), (1, (.v (.k (.c (.int .i64 3)))))])⟩]
def f8r6 : List AI := [⟨none, (.build 37 [(.list 0 (some true) []), (.list 0 (some true) []), (.int .i64 0)] [(0, (1, (.t 35))), (1, (1, (.t 36))), (2, (1, (.v (.k (.c (.int .i64 0))))))])⟩, ⟨none, (.bslice 38 25 3 [(.list 0 (some true) []), (.list 0 (some true) []), (.int .i64 0)] 1 [(0, (.t 37))])⟩, ⟨none, (.call (some 39) 14 [(.t 34), (.t 38)])⟩, ⟨none, (.mov 40 (.t 39))⟩, ⟨(some (40, true)), (.mov 41 (.t 1))⟩, ⟨(some (40, true)), (.bslice 42 3 1 [(.int .i64 0)] 2 [(0, (.v (.k (.c (.int .i64 1))))), (1, (.v (.k (.c (.int .i64 2)))))])⟩, ⟨(some (40, true)), (.bslice 43 3 1 [(.int .i64 0)] 2 [(0, (.v (.k (.c (.int .i64 2))))), (1, (.v (.k (.c (.int .i64 3)))))])⟩]
def f8r7 : List AI := [⟨(some (40, true)), (.build 44 [(.list 0 (some true) []), (.list 0 (some true) []), (.int .i64 0)] [(0, (1, (.t 42))), (1, (1, (.t 43)))])⟩, ⟨(some (40, true)), (.call (some 45) 17 [(.t 41), (.t 44)])⟩, ⟨none, (.pick 46 (.t 40) (.t 45) (.v (.k (.c (.bool false)))))⟩, ⟨none, (.mov 47 (.t 46))⟩, ⟨(some (47, true)), (.mov 48 (.t 1))⟩, ⟨(some (47, true)), (.bslice 49 3 1 [(.int .i64 0)] 2 [(0, (.v (.k (.c (.int .i64 1))))), (1, (.v (.k (.c (.int .i64 2)))))])⟩, ⟨(some (47, true)), (.bslice 50 3 1 [(.int .i64 0)] 2 [(0, (.v (.k (.c (.int .i64 2))))), (1, (.v (.k (.c (.int .i64 3)))))])⟩]
def f8r8 : List AI := [⟨(some (47, true)), (.build 51 [(.list 0 (some true) []), (.list 0 (some true) []), (.int .i64 0)] [(0, (1, (.t 49))), (1, (1, (.t 50))), (2, (1, (.v (.k (.c (.int .i64 1))))))])⟩, ⟨(some (47, true)), (.call (some 52) 17 [(.t 48), (.t 51)])⟩, ⟨(some (47, true)), (.un 53 .not (.t 52))⟩, ⟨none, (.pick 54 (.t 47) (.t 53) (.v (.k (.c (.bool false)))))⟩, ⟨none, (.mov 4 (.t 54))⟩]
def f8b9 : AQ := (.seq (.regs [(f8r5, [35, 36]), (f8r6, [42, 43]), (f8r7, [49, 50]), (f8r8, [])]) f8b4)
def f8r10 : List AI := [⟨none, (.mov 30 (.t 1))⟩, ⟨none, (.iaddr 31 6 (.t 30) (.v (.k (.c (.int .i64 2)))))⟩, ⟨none, (.faddr 32 1 (.t 31))⟩, ⟨none, (.store 1 (.t 32) (.v (.k (.c (.int .i64 2)))))⟩]
def f8b11 : AQ := (.seq (.region f8r10) f8b9)
def f8r12 : List AI := [⟨none, (.mov 8 (.t 2))⟩, ⟨none, (.bslice 9 3 1 [(.int .i64 0)] 3 [(0, (.v (.k (.c (.int .i64 0))))), (1, (.v (.k (.c (.int .i64 1))))), (2, (.v (.k (.c (.int .i64 2)))))])⟩, ⟨none, (.bslice 10 3 1 [(.int .i64 0)] 3 [(0, (.v (.k (.c (.int .i64 1))))), (1, (.v (.k (.c (.int .i64 2))))), (2, (.v (.k (.c (.int .i64 3)))))])⟩]
def f8r13 : List AI := [⟨none, (.build 11 [(.list 0 (some true) []), (.list 0 (some true) []), (.int .i64 0)] [(0, (1, (.t 9))), (1, (1, (.t 10))), (2, (1, (.v (.k (.c (.int .i64 10))))))])⟩, ⟨none, (.bslice 12 25 3 [(.list 0 (some true) []), (.list 0 (some true) []), (.int .i64 0)] 1 [(0, (.t 11))])⟩, ⟨none, (.call (some 13) 14 [(.t 8), (.t 12)])⟩, ⟨none, (.mov 14 (.t 13))⟩, ⟨(some (14, true)), (.mov 15 (.t 1))⟩, ⟨(some (14, true)), (.call (some 16) 20 [(.t 15)])⟩, ⟨(some (14, true)), (.bslice 17 3 1 [(.int .i64 0)] 3 [(0, (.v (.k (.c (.int .i64 1))))), (1, (.v (.k (.c (.int .i64 2))))), (2, (.v (.k (.c (.int .i64 3)))))])⟩, ⟨(some (14, true)), (.call (some 18) 19 [(.t 16), (.t 17)])⟩, ⟨none, (.pick 19 (.t 14) (.t 18) (.v (.k (.c (.bool false)))))⟩, ⟨none, (.mov 20 (.t 19))⟩, ⟨(some (20, true)), (.mov 21 (.t 1))⟩, ⟨(some (20, true)), (.call (some 22) 12 [(.t 21), (.v (.k (.c (.int .i64 0))))])⟩, ⟨(some (20, true)), (.bin 23 .eql (.t 22) (.v (.k (.c (.int .i64 10)))))⟩, ⟨none, (.pick 24 (.t 20) (.t 23) (.v (.k (.c (.bool false)))))⟩, ⟨none, (.mov 25 (.t 24))⟩, ⟨(some (25, true)), (.mov 26 (.t 1))⟩, ⟨(some (25, true)), (.call (some 27) 12 [(.t 26), (.v (.k (.c (.int .i64 2))))])⟩, ⟨(some (25, true)), (.bin 28 .eql (.t 27) (.v (.k (.c (.int .i64 100)))))⟩, ⟨none, (.pick 29 (.t 25) (.t 28) (.v (.k (.c (.bool false)))))⟩, ⟨none, (.mov 3 (.t 29))⟩]
def f8b14 : AQ := (.seq (.regf f8r12 [9, 10] f8r13) f8b11)
def f8r15 : List AI := [⟨none, (.mov 6 (.t 1))⟩, ⟨none, (.call (some 7) 15 [(.t 6)])⟩, ⟨none, (.mov 2 (.t 7))⟩]
def f8b16 : AQ := (.seq (.region f8r15) f8b14)
def f8r17 : List AI := [⟨none, (.call (some 5) 25 [])⟩, ⟨none, (.mov 1 (.t 5))⟩]
def f8b18 : AQ := (.seq (.region f8r17) f8b16)
def f8r19 : List AI := [⟨none, (.mov 0 (.v (.k (.c (.bool false)))))⟩]
def f8b20 : AQ := (.seq (.region f8r19) f8b18)
def f8 : AQ := f8b20
theorem hf8 : cFunc Try.prog 8 = some ⟨77, f8.erase, [(RX.t 0)]⟩ := by kernel_rfl
theorem okf8 : f8.ok = true := by kernel_rfl
end Go.Abs


namespace Go.Abs
theorem wrap_in {n : Int} (h1 : -9223372036854775808 ≤ n) (h2 : n ≤ 9223372036854775807) : IntKind.i64.wrap n = n := IntWalk.i64_in n ⟨h1, h2⟩
def lstC (sz : Nat) (rows : List (List C)) : C := .list (if rows.isEmpty then 0 else sz) none rows
abbrev lst (sz : Nat) (rows : List (List C)) : V := .k (.c (lstC sz rows))
def ints (l : List Int) : List (List C) := l.map fun n => [.int .i64 n]
theorem normRows_eq {α : Type} {f : α → List C} (hf : ∀ x, C.normRow (f x) = f x) (l : List α) : C.normRows (l.map f) = l.map f := by
  induction l with
  | nil => rfl
  | cons a l ih => simp [C.normRows, hf, ih]
theorem lstC_norm {α : Type} {f : α → List C} (hf : ∀ x, C.normRow (f x) = f x) (sz : Nat) (l : List α) : (lstC sz (l.map f)).norm = lstC sz (l.map f) := by
  unfold lstC
  simp only [C.norm, normRows_eq hf]
  cases l <;> simp
inductive Term where
  | mk (op n : Int) (args : List Term)
  deriving Inhabited
def Term.op : Term → Int | .mk o _ _ => o
def Term.n : Term → Int | .mk _ n _ => n
def Term.args : Term → List Term | .mk _ _ a => a
mutual
def encT : Term → List C
  | .mk o n a => [.int .i64 o, .int .i64 n, lstC 3 (encTs a)]
def encTs : List Term → List (List C)
  | [] => []
  | t :: l => encT t :: encTs l
end
theorem encTs_map : ∀ (l : List Term), encTs l = l.map encT
  | [] => rfl
  | t :: l => by simp [encTs, encTs_map l]
theorem encT_eq (t : Term) : encT t = [.int .i64 t.op, .int .i64 t.n, lstC 3 (t.args.map encT)] := by
  cases t with
  | mk o n a => simp [encT, Term.op, Term.n, Term.args, encTs_map]
mutual
theorem encT_norm : ∀ (t : Term), C.normRow (encT t) = encT t
  | .mk o n a => by
    simp only [encT, C.normRow, C.norm, lstC, encTs_norm a]
    cases a <;> simp [encTs]
theorem encTs_norm : ∀ (l : List Term), C.normRows (encTs l) = encTs l
  | [] => rfl
  | t :: l => by simp only [encTs, C.normRows, encT_norm t, encTs_norm l]
end
structure Choice where
  ask : Int
  by_ : Int
  whole : Bool
  deriving Inhabited
structure Rule where
  ask : Int
  term : Term
  deriving Inhabited
structure Order where
  name : List UInt8
  accepts : Bool
  choices : List Choice
  rules : List Rule
  deriving Inhabited
def encChoice (c : Choice) : List C := [.int .i64 c.ask, .int .i64 c.by_, .bool c.whole]
def encRule (r : Rule) : List C := .int .i64 r.ask :: encT r.term
def encOrder (o : Order) : List C := [.str o.name, .bool o.accepts, lstC 3 (o.choices.map encChoice), lstC 4 (o.rules.map encRule)]
theorem encChoice_norm (c : Choice) : C.normRow (encChoice c) = encChoice c := rfl
theorem encRule_norm (r : Rule) : C.normRow (encRule r) = encRule r := by simp [encRule, C.normRow, C.norm, encT_norm]
theorem encOrder_norm (o : Order) : C.normRow (encOrder o) = encOrder o := by
  simp only [encOrder, C.normRow, C.norm, lstC_norm encChoice_norm, lstC_norm encRule_norm]
structure Cell where
  known : Bool
  n : Int
  deriving Inhabited
def encCell (c : Cell) : List C := [.bool c.known, .int .i64 c.n]
theorem encCell_norm (c : Cell) : C.normRow (encCell c) = encCell c := rfl
def encI (n : Int) : List C := [.int .i64 n]
@[simp] theorem normRow_int (k : IntKind) (n : Int) : C.normRow [.int k n] = [.int k n] := rfl
@[simp] theorem normRow_encI (n : Int) : C.normRow (encI n) = encI n := rfl
attribute [simp] encT_norm encChoice_norm encRule_norm encOrder_norm encCell_norm C.normRow
@[simp] theorem norm_int (k : IntKind) (n : Int) : (C.int k n).norm = .int k n := rfl
@[simp] theorem norm_bool (b : Bool) : (C.bool b).norm = .bool b := rfl
@[simp] theorem norm_str (s : List UInt8) : (C.str s).norm = .str s := rfl
@[simp] theorem norm_ro (row : List C) (off : Nat) : (C.ro row off).norm = .ro (C.normRow row) off := rfl
@[simp] theorem norm_fn (f : FuncId) (caps : List C) : (C.fn f caps).norm = .fn f (C.normRow caps) := rfl
@[simp] theorem normRows_T (l : List Term) : C.normRows (l.map encT) = l.map encT := normRows_eq encT_norm l
@[simp] theorem normRows_Ch (l : List Choice) : C.normRows (l.map encChoice) = l.map encChoice := normRows_eq encChoice_norm l
@[simp] theorem normRows_R (l : List Rule) : C.normRows (l.map encRule) = l.map encRule := normRows_eq encRule_norm l
@[simp] theorem normRows_O (l : List Order) : C.normRows (l.map encOrder) = l.map encOrder := normRows_eq encOrder_norm l
@[simp] theorem normRows_Ce (l : List Cell) : C.normRows (l.map encCell) = l.map encCell := normRows_eq encCell_norm l
@[simp] theorem normRows_ints (l : List Int) : C.normRows (ints l) = ints l := normRows_eq (fun _ => rfl) l
@[simp] theorem normRows_nil : C.normRows [] = [] := rfl
@[simp] theorem normRows_cons (r : List C) (l : List (List C)) : C.normRows (r :: l) = C.normRow r :: C.normRows l := rfl
@[simp] theorem ints_len (l : List Int) : (ints l).length = l.length := by simp [ints]
theorem ints_at {l : List Int} {i : Nat} (h : i < l.length) : (ints l).getD i [] = [.int .i64 l[i]] := by simp [ints, h]
@[simp] theorem ints_isEmpty (l : List Int) : (ints l).isEmpty = l.isEmpty := by cases l <;> rfl
theorem ints_snoc (l : List Int) (n : Int) : ints l ++ [[.int .i64 n]] = ints (l ++ [n]) := by simp [ints]
theorem r_vLen_lst (o : Nat → Option O) (sz : Nat) (rows : List (List C)) : vLen o (.k (.c (lstC sz rows))) = some (True, .int .i64 rows.length) := rfl
theorem r_vIaddr_lst (o : Nat → Option O) (sz : Nat) (rows : List (List C)) (k : IntKind) (n : Int) : vIaddr o sz (.k (.c (lstC sz rows))) (.k (.c (.int k n))) = some (0 ≤ n ∧ n < rows.length, .k (.pel sz rows n.toNat 0)) := by
  simp only [lstC, vIaddr, Option.some.injEq, Prod.mk.injEq]
  cases rows with
  | nil => simp; omega
  | cons a l =>
    refine ⟨?_, ?_⟩
    · simp
    · simp
theorem r_srcV_lst (os : OS) (sz : Nat) (rows : List (List C)) : srcV os sz (.k (.c (lstC sz rows))) = some (True, rows) := by
  simp only [lstC, srcV]
  cases rows <;> simp
@[simp] theorem norm_lst (sz : Nat) (rows : List (List C)) : (lstC sz rows).norm = lstC sz (C.normRows rows) := by
  unfold lstC
  simp only [C.norm]
  cases rows <;> simp [C.normRows]
@[simp] theorem norm_list (sz : Nat) (nl : Option Bool) (rows : List (List C)) : (C.list sz nl rows).norm = lstC sz (C.normRows rows) := by
  unfold lstC
  simp only [C.norm]
  cases rows <;> simp [C.normRows]
theorem r_all_noRef (d : Nat) (r : List C) : (r.map Abs.K.c).all (Abs.K.noRef d) = true := by induction r <;> simp_all [Abs.K.noRef]
theorem len_lst {sz : Nat} {rows : List (List C)} {l : List V} (hm : lst sz rows ∈ l) (h : ∀ v, v ∈ l → ∀ c, c ∈ v.topC → ∀ sz nl rows, c = .list sz nl rows → rows.length ≤ 9223372036854775807) : rows.length ≤ 9223372036854775807 :=
  h _ hm (lstC sz rows) (by simp [V.topC]) _ _ _ rfl
section
variable {P : Program} {f : FuncId} {vs : List V} {K : KK} {d : Nat} {ts : TS} {os : OS}
theorem call_s {args : List V} {r : V} {X : Prop} (hs : Spec P f args (fun r' => r' = r)) (hk : K (insT d r ts) os)
    (hp : vs.all (fun v => (lendL os v).isPure) = true := by simp [lendL, lendO, lookO, V.isPure])
    (ha : vs.map (fun v => (lendL os v).norm) = args := by simp [lendL, lendO, lookO, V.norm, encT_eq, encRule, encOrder, encChoice, encCell, norm_list, lst]) (hr : r.scalar = true := by rfl) : callK P f vs [] K (some d) ts os ∨ X := by
  refine .inl ⟨hp, r, .inl ?_, ?_⟩
  · simpa [ha] using hs
  · rw [if_pos hr]; exact hk
theorem call_c {cs : List C} {args : List V} {r : V} {X : Prop} (hs : Spec P f args (fun r' => r' = r)) (hk : K (insT d r ts) os)
    (hp : vs.all (fun v => (lendL os v).isPure) = true := by simp [lendL, lendO, lookO, V.isPure])
    (ha : (vs.map (fun v => (lendL os v).norm) ++ cs.map fun c => .k (.c c.norm)) = args := by simp [lendL, lendO, lookO, V.norm, encT_eq, encRule, encOrder, encChoice, encCell, norm_list, lst]) (hr : r.scalar = true := by rfl) : callK P f vs cs K (some d) ts os ∨ X := by
  refine .inl ⟨hp, r, .inl (by rw [ha]; exact hs), ?_⟩
  rw [if_pos hr]; exact hk
theorem call_r {args : List V} {r : V} {X : Prop} (hs : Spec P f args (fun r' => r' = r)) (hk : retK r K ts os (some d))
    (hp : vs.all (fun v => (lendL os v).isPure) = true := by simp [lendL, lendO, lookO, V.isPure])
    (ha : vs.map (fun v => (lendL os v).norm) = args := by simp [lendL, lendO, lookO, V.norm, encT_eq, encRule, encOrder, encChoice, encCell, norm_list, lst])
    (ht : vs.all (fun v => v.toks.isEmpty) = true := by simp [V.toks, K.toks]) (hr : r.scalar = false := by rfl) : callK P f vs [] K (some d) ts os ∨ X := by
  refine .inl ⟨hp, r, .inl (by simpa [ha] using hs), ?_⟩
  rw [if_neg (by simp [hr])]
  exact ⟨ht, hk⟩
theorem call_l {args : List V} {e sz : Nat} {nl : Option Bool} {rows : List (List C)} {X : Prop} (hs : Spec P f args (fun r' => r' = .k (.newl e sz nl rows))) (hk : K (insT d (.k (.own d)) ts) (insO d (.arr e sz nl rows) os))
    (hp : vs.all (fun v => (lendL os v).isPure) = true := by simp [lendL, lendO, lookO, V.isPure])
    (ha : vs.map (fun v => (lendL os v).norm) = args := by simp [lendL, lendO, lookO, V.norm, encT_eq, encRule, encOrder, encChoice, encCell, norm_list, lst])
    (ht : vs.all (fun v => v.toks.isEmpty) = true := by simp [V.toks, K.toks]) (hf : freeB d ts os := by first | rfl | simp [freeB, freeT, freeO, V.noRef, V.noRefL, O.noRef, Abs.K.noRef, r_all_noRef]) : callK P f vs [] K (some d) ts os ∨ X := by
  refine .inl ⟨hp, _, .inl (by simpa [ha] using hs), ?_⟩
  rw [if_neg (by simp [V.scalar])]
  refine ⟨ht, ?_⟩
  show regK _ _ _ _ _ _
  refine ⟨⟨⟨hf, .inl rfl⟩, trivial⟩, hk⟩
theorem callQ_s {args : List V} {r : V} (hs : Spec P f args (fun r' => r' = r)) (hk : K (insT d r.fz ts) os)
    (hp : vs.all (fun v => (lendL os v).isPure) = true := by simp [lendL, lendO, lookO, V.isPure])
    (ha : vs.map (fun v => (lendL os v).norm) = args := by simp [lendL, lendO, lookO, V.norm, encT_eq, encRule, encOrder, encChoice, encCell, norm_list, lst]) (hr : r.scalar = true := by rfl) : callQK P f vs [] K d ts os :=
  ⟨hp, r, by simpa [ha] using hs, .inl hr, hk⟩
end
end Go.Abs

