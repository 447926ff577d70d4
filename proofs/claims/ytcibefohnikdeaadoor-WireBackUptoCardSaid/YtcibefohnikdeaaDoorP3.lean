/- A part of the proof that WireBack returns true for all arguments of bulk at most 1048576; the last text states it. -/
import Derived.Test.YtcibefohnikdeaaDoorP2
import Derived.Shelf.Sort.Plain
import Derived.Shelf.Slices.CompactI
import Derived.Sort.OwnSortedInts
import Derived.Shelf.Slices.In.SortNone
import Derived.Shelf.Spec.SlicesGrow
import Derived.Shelf.Strconv.Itoa3
import Derived.Shelf.Strings.Cut
import Derived.Handed
import Derived.ChangeFn
import Derived.ChangeArms
import Derived.ChangeReads
import Derived.ReadAgain
import Derived.ChangeSame
import Derived.ChangeOld
import Derived.ChangeStays
import Derived.RowKit
import Derived.Test.YtcibefohnikdeaaDoorProg
import Derived.IntWalk
import Derived.Lib.AtoiAll
import Derived.Lib.ItoaNum
import Derived.Shelf.Strconv.AtoiAll
import Derived.Shelf.Strings.BuilderK
import Derived.Shelf.Strings.Builder1
import Derived.WalkKit
import Derived.BigCall
import Derived.OwnWalk
import Derived.Deep.QuietTactic
import Derived.BigQuiet
import Derived.Lib.IndexMore
set_option linter.unusedVariables false
set_option linter.unusedSimpArgs false
namespace Go.Abs
inductive AQ where
  | skip
  | region (ops : List AI)
  | draw (ops : List AI) (pre : List (List Nat))
  | tree (ops : List AI) (pre : List (List Nat))
  | seq (a b : AQ)
  | cond (c : AX) (a b : AQ)
  | block (id : Nat) (a : AQ)
  | loop (L M : List Nat) (a : AQ)
  | exit (id : Nat)
  | ret
  | keep (L M : List Nat) (a : AQ)
  | own (τ A e sz : Nat) (a : AQ)
  | swap (x y : Nat) (a : AQ)
  | frz (τ : Nat) (a : AQ)
  deriving Inhabited
def AQ.erase : AQ → AC
  | .skip => .skip
  | .region l => .region l
  | .draw l p => .draw l p
  | .tree l p => .draw l p
  | .seq a b => .seq a.erase b.erase
  | .cond c a b => .cond c a.erase b.erase
  | .block i a => .block i a.erase
  | .loop _ _ a => .loop a.erase
  | .exit i => .exit i
  | .ret => .ret
  | .keep _ _ a => a.erase
  | .own _ _ _ _ a => a.erase
  | .swap _ _ a => a.erase
  | .frz _ a => a.erase
def AQ.ok : AQ → Bool
  | .draw l p => listOk l p
  | .seq a b => a.ok && b.ok
  | .cond _ a b => a.ok && b.ok
  | .block _ a => a.ok
  | .loop _ _ a => a.ok
  | .keep _ _ a => a.ok
  | .own _ _ _ _ a => a.ok
  | .swap _ _ a => a.ok
  | .frz _ a => a.ok
  | _ => true
def St.keep (σ : St) (L M : List Nat) : St := ⟨fun s => if L.contains s then σ.t s else .any, tabIn M σ.o⟩
def sw (x y s : Nat) : Nat := if s = x then y else if s = y then x else s
theorem sw_sw (x y s : Nat) : sw x y (sw x y s) = s := by
  unfold sw
  by_cases h1 : s = x <;> by_cases h2 : s = y <;> simp_all
def Cap.sw (x y : Nat) : Cap → Cap
  | .tok s => .tok (Abs.sw x y s)
  | .ro row off => .ro row off
def K.sw (x y : Nat) : K → K
  | .c a => .c a
  | .own s => .own (Abs.sw x y s)
  | .ptr s o => .ptr (Abs.sw x y s) o
  | .elem s i o => .elem (Abs.sw x y s) i o
  | .pel sz rows i o => .pel sz rows i o
  | .fnk f caps => .fnk f (caps.map (Cap.sw x y))
  | .newl e sz nl rows => .newl e sz nl rows
  | .dead => .dead
def V.sw (x y : Nat) : V → V
  | .k a => .k (a.sw x y)
  | .agg r => .agg r
  | .agk r => .agk (r.map (K.sw x y))
  | .undef => .undef
  | .tup _ => .any
  | .any => .any
def O.sw (x y : Nat) : O → O
  | .var e row => .var e (row.map (K.sw x y))
  | .arr e sz nl rows => .arr e sz nl rows
def St.sw (σ : St) (x y : Nat) : St := ⟨fun s => (σ.t s).sw x y, fun s => (σ.o (Abs.sw x y s)).map (O.sw x y)⟩
def St.noA (σ : St) (A : Nat) : Prop := σ.o A = none ∧ (∀ s, (σ.t s).noRef A = true) ∧ ∀ s ob, σ.o s = some ob → ob.noRef A = true
def St.ownNil (σ : St) (τ A e sz : Nat) (e' : TypeId) : St := ⟨σ.t, fun s => if s = A then some (.arr e sz (some true) []) else if s = τ then some (.var e' [.own A]) else σ.o s⟩
def awq (P : Program) : AQ → (AE → St → Prop) → St → Prop
  | .skip, Q, σ => Q .normal σ
  | .region ops, Q, σ => wpAIs P ops (Q .normal) σ
  | .draw ops _, Q, σ => wpQs P ops (Q .normal) σ
  | .tree ops pre, Q, σ => wpT P (treeOf ops pre) (Q .normal) σ
  | .seq a b, Q, σ => awq P a (AE.then (awq P b Q) Q) σ
  | .cond c a b, Q, σ => c.evg σ true fun v =>
      match v with
      | .k (.c (.bool t)) => (t = true → awq P a Q σ) ∧ (t = false → awq P b Q σ)
      | _ => False
  | .block id a, Q, σ => awq P a (AE.inBlock id Q) σ
  | .loop L M a, Q, σ => ∃ I : Nat → St → Prop, (∃ n, I n (σ.keep L M)) ∧ ∀ n σ', I n σ' → awq P a (AE.then (fun σ'' => ∃ m, m < n ∧ I m (σ''.keep L M)) Q) σ'
  | .exit id, Q, σ => Q (.exit id) σ
  | .ret, Q, σ => Q .ret σ
  | .keep L M a, Q, σ => awq P a Q (σ.keep L M)
  | .own τ A e sz a, Q, σ => ∃ e' z, σ.o τ = some (.var e' [.c (.list z (some true) [])]) ∧ σ.noA A ∧ awq P a Q (σ.ownNil τ A e sz e')
  | .swap x y a, Q, σ => awq P a Q (σ.sw x y)
  | .frz τ a, Q, σ => awq P a Q (σ.frz τ)
section
variable {P : Program} {w0 : Base} {w : World} {Z0 Z : Bk → Prop} {κ : Kap} {σ : St} {fr : Array Value} {o o' : Nat → Option O}
theorem CapRep.sub (ho : ∀ τ ob, o' τ = some ob → o τ = some ob) {c : Cap} {v : Value} (h : CapRep w Z κ o c v) : CapRep w Z κ o' c v := by
  cases c with
  | tok τ => exact fun e row h' => h e row (ho _ _ h')
  | ro => exact h
theorem KRep.sub (ho : ∀ τ ob, o' τ = some ob → o τ = some ob) {x : K} {v : Value} (h : KRep w Z κ o x v) : KRep w Z κ o' x v := by
  cases x with
  | own τ => exact fun e sz nl rows h' => h e sz nl rows (ho _ _ h')
  | ptr τ off => exact fun e row h' => h e row (ho _ _ h')
  | elem τ i off => exact fun e sz nl rows h' => h e sz nl rows (ho _ _ h')
  | fnk f caps =>
    obtain ⟨vs, h1, h2, h3⟩ := h
    exact ⟨vs, h1, h2, fun j c hc => let ⟨u, hu, hr⟩ := h3 j c hc; ⟨u, hu, hr.sub ho⟩⟩
  | _ => exact h
theorem KRow.sub (ho : ∀ τ ob, o' τ = some ob → o τ = some ob) {r : List K} {cs : List Value} (h : KRow w Z κ o r cs) : KRow w Z κ o' r cs :=
  ⟨h.1, fun j k v hk hv => ⟨(h.2 j k v hk hv).1, (h.2 j k v hk hv).2.sub ho⟩⟩
mutual
theorem VRep.sub (ho : ∀ τ ob, o' τ = some ob → o τ = some ob) : ∀ {x : V} {v : Value}, VRep w Z κ o x v → VRep w Z κ o' x v
  | .k x, v, h => ⟨h.1, h.2.sub ho⟩
  | .agg r, v, h => h
  | .agk r, v, ⟨cs, e, h⟩ => ⟨cs, e, h.sub ho⟩
  | .tup vs, v, ⟨us, e, hl, h⟩ => ⟨us, e, hl, VRepL.sub ho h⟩
  | .undef, v, h => h
  | .any, v, h => trivial
theorem VRepL.sub (ho : ∀ τ ob, o' τ = some ob → o τ = some ob) : ∀ {xs : List V} {vs : List Value}, VRepL w Z κ o xs vs → VRepL w Z κ o' xs vs
  | [], _, h => trivial
  | _ :: _, [], h => trivial
  | x :: xs, v :: vs, h => ⟨VRep.sub ho h.1, VRepL.sub ho h.2⟩
end
theorem ORep.sub (ho : ∀ τ ob, o' τ = some ob → o τ = some ob) {τ : Nat} {ob : O} (h : ORep w Z κ o τ ob) : ORep w Z κ o' τ ob := by
  cases ob with
  | var e row =>
    obtain ⟨b, cur, h1, h2, h3⟩ := h
    exact ⟨b, cur, h1, h2, h3.sub ho⟩
  | arr => exact h
theorem keep_le (σ : St) (L M : List Nat) : σ.le (σ.keep L M) := by
  intro w0 Z0 κ fr w hi
  refine ⟨κ, ?_⟩
  have ho : ∀ τ ob, (σ.keep L M).o τ = some ob → σ.o τ = some ob := by
    intro τ ob h
    simp only [St.keep, tabIn] at h
    split at h
    · exact h
    · simp at h
  have hn : ∀ τ, (σ.keep L M).o τ ≠ none → σ.o τ ≠ none := by
    intro τ h
    obtain ⟨ob, hob⟩ := Option.ne_none_iff_exists'.1 h
    rw [ho τ ob hob]; simp
  have hsub : ∀ b, Zof w0 Z0 κ σ.o w b → Zof w0 Z0 κ (σ.keep L M).o w b := fun b hb => ⟨hb.1, hb.2.1, fun τ hτ => hb.2.2 τ (hn τ hτ)⟩
  have hself : Same (Zof w0 Z0 κ σ.o w) w w := fun _ _ => rfl
  have ht : TabLike (fun _ => True) σ.o σ.o κ κ w w := fun τ _ => ⟨Like.refl _, rfl, fun _ b _ cur e f hb => ⟨cur, hb, rfl⟩⟩
  refine ⟨hi.kept, hi.glob, fun τ b h hb => hi.own τ b (hn τ h) hb, fun τ τ' b h h' hb hb' => hi.inj τ τ' b (hn τ h) (hn τ' h') hb hb', fun τ ob h => ?_, fun s => ?_⟩
  · exact ((hi.objs τ ob (ho τ ob h)).mono hself hsub ht rfl (fun _ _ => rfl) (fun _ _ => trivial)).sub ho
  · show VRep _ _ _ _ (if L.contains s then σ.t s else .any) _
    split
    · exact ((hi.tmps s).mono hself hsub ht (fun _ _ => trivial)).sub ho
    · trivial
section sw
variable {x y : Nat}
theorem sw_arr {τ : Nat} {e : TypeId} {sz : Nat} {nl : Option Bool} {rows : List (List C)} (h : (o (Abs.sw x y (Abs.sw x y τ))).map (O.sw x y) = some (.arr e sz nl rows)) : o τ = some (.arr e sz nl rows) := by
  rw [sw_sw] at h
  cases ho : o τ with
  | none => rw [ho] at h; cases h
  | some ob =>
    rw [ho] at h
    cases ob with
    | var => simp [O.sw] at h
    | arr => simpa [O.sw] using h
theorem sw_var {τ : Nat} {e : TypeId} {row : List K} (h : (o (Abs.sw x y (Abs.sw x y τ))).map (O.sw x y) = some (.var e row)) : ∃ row', o τ = some (.var e row') := by
  rw [sw_sw] at h
  cases ho : o τ with
  | none => rw [ho] at h; cases h
  | some ob =>
    rw [ho] at h
    cases ob with
    | var e' r => simp [O.sw] at h; exact ⟨r, by rw [h.1]⟩
    | arr => simp [O.sw] at h
theorem CapRep.sw {c : Cap} {v : Value} (h : CapRep w Z κ o c v) : CapRep w Z (fun s => κ (Abs.sw x y s)) (fun s => (o (Abs.sw x y s)).map (O.sw x y)) (c.sw x y) v := by
  cases c with
  | tok τ =>
    intro e row h'
    obtain ⟨row', hr⟩ := sw_var (x := x) (y := y) h'
    simp only [sw_sw]
    exact h e row' hr
  | ro => exact h
theorem KRep.sw {k : K} {v : Value} (h : KRep w Z κ o k v) : KRep w Z (fun s => κ (Abs.sw x y s)) (fun s => (o (Abs.sw x y s)).map (O.sw x y)) (k.sw x y) v := by
  cases k with
  | own τ =>
    intro e sz nl rows h'
    simp only [sw_sw]
    exact h e sz nl rows (sw_arr h')
  | ptr τ off =>
    intro e row h'
    obtain ⟨row', hr⟩ := sw_var (x := x) (y := y) h'
    simp only [sw_sw]
    exact h e row' hr
  | elem τ i off =>
    intro e sz nl rows h'
    simp only [sw_sw]
    exact h e sz nl rows (sw_arr h')
  | fnk f caps =>
    obtain ⟨vs, h1, h2, h3⟩ := h
    refine ⟨vs, h1, by simpa using h2, fun j c hc => ?_⟩
    simp only [List.getElem?_map, Option.map_eq_some_iff] at hc
    obtain ⟨c', hc', rfl⟩ := hc
    obtain ⟨u, hu, hr⟩ := h3 j c' hc'
    exact ⟨u, hu, hr.sw⟩
  | _ => exact h
theorem KRow.sw {r : List K} {cs : List Value} (h : KRow w Z κ o r cs) : KRow w Z (fun s => κ (Abs.sw x y s)) (fun s => (o (Abs.sw x y s)).map (O.sw x y)) (r.map (K.sw x y)) cs := by
  refine ⟨by simpa using h.1, fun j k v hk hv => ?_⟩
  simp only [List.getElem?_map, Option.map_eq_some_iff] at hk
  obtain ⟨k', hk', rfl⟩ := hk
  exact ⟨(h.2 j k' v hk' hv).1, (h.2 j k' v hk' hv).2.sw⟩
theorem VRep.sw {a : V} {v : Value} (h : VRep w Z κ o a v) : VRep w Z (fun s => κ (Abs.sw x y s)) (fun s => (o (Abs.sw x y s)).map (O.sw x y)) (a.sw x y) v := by
  cases a with
  | k a => exact ⟨h.1, KRep.sw h.2⟩
  | agg r => exact h
  | agk r => obtain ⟨cs, e, h⟩ := h; exact ⟨cs, e, h.sw⟩
  | tup vs => trivial
  | undef => exact h
  | any => trivial
theorem sw_le (σ : St) (x y : Nat) : σ.le (σ.sw x y) := by
  intro w0 Z0 κ fr w hi
  refine ⟨fun s => κ (Abs.sw x y s), ?_⟩
  have hn : ∀ s, (σ.sw x y).o s ≠ none → σ.o (Abs.sw x y s) ≠ none := by
    intro s h e
    apply h
    show (σ.o (Abs.sw x y s)).map (O.sw x y) = none
    rw [e]; rfl
  have hself : Same (Zof w0 Z0 κ σ.o w) w w := fun _ _ => rfl
  have hsub : ∀ b, Zof w0 Z0 κ σ.o w b → Zof w0 Z0 (fun s => κ (Abs.sw x y s)) (σ.sw x y).o w b := fun b hb => ⟨hb.1, hb.2.1, fun s hs => hb.2.2 _ (hn s hs)⟩
  have ht : TabLike (fun _ => True) σ.o σ.o κ κ w w := fun τ _ => ⟨Like.refl _, rfl, fun _ b _ cur e f hb => ⟨cur, hb, rfl⟩⟩
  refine ⟨hi.kept, hi.glob, fun s b h hb => hi.own _ b (hn s h) hb, fun s s' b h h' hb hb' => ?_, fun s ob h => ?_, fun s => ?_⟩
  · have := hi.inj _ _ b (hn s h) (hn s' h') hb hb'
    have := congrArg (Abs.sw x y) this
    rwa [sw_sw, sw_sw] at this
  · have h' : (σ.o (Abs.sw x y s)).map (O.sw x y) = some ob := h
    simp only [Option.map_eq_some_iff] at h'
    obtain ⟨ob0, h0, rfl⟩ := h'
    have := (hi.objs _ ob0 h0).mono (Z' := Zof w0 Z0 (fun s => κ (Abs.sw x y s)) (σ.sw x y).o w) hself hsub ht rfl (fun _ _ => rfl) (fun _ _ => trivial)
    cases ob0 with
    | var e row =>
      obtain ⟨b, cur, h1, h2, h3⟩ := this
      exact ⟨b, cur, h1, h2, h3.sw⟩
    | arr e sz nl rows => exact this
  · exact ((hi.tmps s).mono hself hsub ht (fun _ _ => trivial)).sw
end sw
theorem ownNil_le {τ A e sz z : Nat} {e' : TypeId} (hτ : σ.o τ = some (.var e' [.c (.list z (some true) [])])) (hA : σ.noA A) : σ.le (σ.ownNil τ A e sz e') := by
  intro w0 Z0 κ fr w hi
  obtain ⟨hA0, hA1, hA2⟩ := hA
  have hne : τ ≠ A := by rintro rfl; rw [hA0] at hτ; cases hτ
  refine ⟨fun s => if s = A then none else κ s, ?_⟩
  have ho : ∀ s, s ≠ A → s ≠ τ → (σ.ownNil τ A e sz e').o s = σ.o s := fun s h1 h2 => by simp [St.ownNil, h1, h2]
  have hn : ∀ s, s ≠ A → (σ.ownNil τ A e sz e').o s ≠ none → σ.o s ≠ none := by
    intro s h1 h
    by_cases h2 : s = τ
    · subst h2; rw [hτ]; simp
    · rw [ho s h1 h2] at h; exact h
  have hsub : ∀ b, Zof w0 Z0 κ σ.o w b → Zof w0 Z0 (fun s => if s = A then none else κ s) (σ.ownNil τ A e sz e').o w b := by
    intro b hb
    refine ⟨hb.1, hb.2.1, fun s hs => ?_⟩
    by_cases h : s = A
    · simp [h]
    · simp only [h, if_false]; exact hb.2.2 s (hn s h hs)
  have hself : Same (Zof w0 Z0 κ σ.o w) w w := fun _ _ => rfl
  have ht : TabLike (fun s => s ≠ A) σ.o (σ.ownNil τ A e sz e').o κ (fun s => if s = A then none else κ s) w w := by
    intro s hs
    refine ⟨?_, by simp [hs], fun _ b _ cur e f hb => ⟨cur, hb, rfl⟩⟩
    by_cases h2 : s = τ
    · subst h2; rw [hτ]; simp [St.ownNil, hs, Like]
    · rw [ho s hs h2]; exact Like.refl _
  refine ⟨hi.kept, hi.glob, fun s b h hb => ?_, fun s s' b h h' hb hb' => ?_, fun s ob h => ?_, fun s => ?_⟩
  · by_cases h1 : s = A
    · simp [h1] at hb
    · simp only [h1, if_false] at hb; exact hi.own s b (hn s h1 h) hb
  · by_cases h1 : s = A
    · simp [h1] at hb
    · by_cases h2 : s' = A
      · simp [h2] at hb'
      · simp only [h1, h2, if_false] at hb hb'
        exact hi.inj s s' b (hn s h1 h) (hn s' h2 h') hb hb'
  · by_cases h1 : s = A
    · subst h1
      simp [St.ownNil] at h
      subst h
      exact .inl ⟨by simp, rfl, by simp⟩
    · by_cases h2 : s = τ
      · subst h2
        simp [St.ownNil, h1] at h
        subst h
        obtain ⟨b, cur, hb, hh, hr⟩ := hi.objs s _ hτ
        refine ⟨b, cur, by simp [h1, hb], hh, hr.1, fun j k v hk hv => ?_⟩
        cases j with
        | succ j => simp at hk
        | zero =>
          simp at hk
          subst hk
          obtain ⟨hone, hrep⟩ := hr.2 0 _ v rfl hv
          refine ⟨hone, fun e2 sz2 nl2 rows2 _ => .inl ⟨by simp, ?_⟩⟩
          have hrep' : PRep w (Zof w0 Z0 κ σ.o w) (.list z (some true) []) v := hrep
          generalize hnl : (some true : Option Bool) = nl at hrep'
          generalize hrw : ([] : List (List C)) = rw0 at hrep'
          cases hrep' with
          | nil => rfl
          | emp _ _ a h => exact absurd hnl.symm h
          | list _ _ _ _ _ _ _ h => exact absurd hnl.symm h
      · rw [ho s h1 h2] at h
        exact (hi.objs s ob h).mono hself hsub ht (by simp [h1]) (fun _ _ => rfl) (fun τ' hτ' => by rintro rfl; rw [hA2 s ob h] at hτ'; cases hτ')
  · exact (hi.tmps s).mono hself hsub ht (fun τ' hτ' => by rintro rfl; rw [hA1 s] at hτ'; cases hτ')
theorem Wk.trans {K : St → Prop} {σ' : St} (h : σ.le σ') (hk : Wk K σ') : Wk K σ := by
  obtain ⟨σ2, h2, h3⟩ := hk
  refine ⟨σ2, fun w0 Z0 κ fr w hi => ?_, h3⟩
  obtain ⟨κ', hi'⟩ := h w0 Z0 κ fr w hi
  exact h2 w0 Z0 κ' fr w hi'
theorem Wk.mono {K K' : St → Prop} (hk : ∀ σ, K σ → K' σ) (h : Wk K σ) : Wk K' σ := let ⟨σ', h1, h2⟩ := h; ⟨σ', h1, hk _ h2⟩
theorem Wk.in {K : St → Prop} (h : K σ) : Wk K σ := ⟨σ, fun _ _ κ _ _ h => ⟨κ, h⟩, h⟩
theorem Wk.bind {K K' : St → Prop} (h : Wk K σ) (hk : ∀ σ, K σ → Wk K' σ) : Wk K' σ := let ⟨_, h1, h2⟩ := h; Wk.trans h1 (hk _ h2)
theorem wpAI_mono {i : AI} {K K' : St → Prop} (hk : ∀ σ, K σ → K' σ) (h : wpAI P i K σ) : wpAI P i K' σ := by
  obtain ⟨g, op⟩ := i
  cases g with
  | none => exact exOp_mono hk h
  | some sw =>
    obtain ⟨s, want⟩ := sw
    simp only [wpAI] at h ⊢
    split at h
    · rename_i hb; exact ⟨fun hq => exOp_mono hk (h.1 hq), fun hq => hk _ (h.2 hq)⟩
    · exact hk _ h
    · exact h.elim
theorem wpAIs_mono : ∀ {l : List AI} {K K' : St → Prop} {σ : St}, (∀ σ, K σ → K' σ) → wpAIs P l K σ → wpAIs P l K' σ
  | [], _, _, σ, hk, h => hk σ h
  | i :: l, K, K', σ, hk, h => wpAI_mono (fun σ h => wpAIs_mono hk h) h
theorem wpT_mono : ∀ {t : DT} {K K' : St → Prop} {σ : St}, (∀ σ, K σ → K' σ) → wpT P t K σ → wpT P t K' σ
  | .done, _, _, σ, hk, h => hk σ h
  | .fail, _, _, σ, hk, h => h
  | .top, _, _, σ, hk, h => trivial
  | .one i t, K, K', σ, hk, h => wpQ_mono (fun σ h => wpT_mono (t := t) hk h) h
  | .alt a b, K, K', σ, hk, h => ⟨wpT_mono (t := a) hk h.1, wpT_mono (t := b) hk h.2⟩
theorem then_mono {A B : St → Prop} {Q Q' : AE → St → Prop} (h1 : ∀ σ, A σ → B σ) (h2 : ∀ e σ, Q e σ → Q' e σ) : ∀ e σ, AE.then A Q e σ → AE.then B Q' e σ := by
  intro e σ h
  cases e with
  | normal => exact h1 σ h
  | exit i => exact h2 _ σ h
  | ret => exact h2 _ σ h
theorem inBlock_mono {id : Nat} {Q Q' : AE → St → Prop} (h2 : ∀ e σ, Q e σ → Q' e σ) : ∀ e σ, AE.inBlock id Q e σ → AE.inBlock id Q' e σ := by
  intro e σ h
  cases e with
  | normal => exact h2 _ σ h
  | exit i =>
    simp only [AE.inBlock] at h ⊢
    split
    · rename_i hi; rw [if_pos hi] at h; exact h2 _ σ h
    · rename_i hi; rw [if_neg hi] at h; exact h2 _ σ h
  | ret => exact h2 _ σ h
theorem awp_mono (c : AC) : ∀ {Q Q' : AE → St → Prop} {σ : St}, (∀ e σ, Q e σ → Q' e σ) → awp P c Q σ → awp P c Q' σ := by
  induction c with
  | skip => intro Q Q' σ hq h; exact hq _ σ h
  | region l => intro Q Q' σ hq h; exact wpAIs_mono (hq .normal) h
  | draw l p => intro Q Q' σ hq h; exact Or.imp (fun h => ⟨h.1, wpQs_mono (hq .normal) h.2⟩) (fun h => wpT_mono (hq .normal) h) h
  | seq a b iha ihb =>
    intro Q Q' σ hq h
    exact iha (then_mono (fun σ h => Wk.mono (fun σ h => ihb hq h) h) hq) h
  | cond c a b iha ihb =>
    intro Q Q' σ hq h
    simp only [awp, AX.evg] at h ⊢
    refine ⟨h.1, ?_⟩
    have h2 := h.2
    generalize (AX.ev σ c).strip.1 = v at h2 ⊢
    split at h2
    · exact ⟨fun ht => Wk.mono (fun σ h => iha hq h) (h2.1 ht), fun ht => Wk.mono (fun σ h => ihb hq h) (h2.2 ht)⟩
    · exact h2.elim
  | block i a ih =>
    intro Q Q' σ hq h
    exact Wk.mono (fun σ h => ih (inBlock_mono hq) h) h
  | loop a ih =>
    intro Q Q' σ hq h
    obtain ⟨I, h0, h1⟩ := h
    exact ⟨I, h0, fun n σ' hI => Wk.mono (fun σ h => ih (then_mono (fun σ h => h) hq) h) (h1 n σ' hI)⟩
  | exit i => intro Q Q' σ hq h; exact hq _ σ h
  | ret => intro Q Q' σ hq h; exact hq _ σ h
theorem awq_sound (c : AQ) : c.ok = true → ∀ {Q : AE → St → Prop} {σ : St}, awq P c Q σ → Wk (awp P c.erase (fun e => Wk (Q e))) σ := by
  induction c with
  | skip => intro _ Q σ h; exact .in (.in h)
  | region l => intro _ Q σ h; exact .in (wpAIs_mono (fun _ h => .in h) h)
  | draw l p => intro hok Q σ h; exact .in (.inl ⟨hok, wpQs_mono (fun _ h => .in h) h⟩)
  | tree l p => intro _ Q σ h; exact .in (.inr (wpT_mono (fun _ h => .in h) h))
  | seq a b iha ihb =>
    intro hok Q σ h
    simp only [AQ.ok, Bool.and_eq_true] at hok
    refine Wk.mono (fun τ ht => awp_mono a.erase (Q' := AE.then (Wk (awp P b.erase fun e => Wk (Q e))) fun e => Wk (Q e)) (fun e σ h => ?_) ht) (iha hok.1 h)
    cases e with
    | normal => exact Wk.bind h (fun σ h => ihb hok.2 h)
    | exit i => exact h
    | ret => exact h
  | cond c a b iha ihb =>
    intro hok Q σ h
    simp only [AQ.ok, Bool.and_eq_true] at hok
    simp only [awq, AX.evg] at h
    refine .in ?_
    simp only [AQ.erase, awp, AX.evg]
    refine ⟨h.1, ?_⟩
    have h2 := h.2
    generalize (AX.ev σ c).strip.1 = v at h2 ⊢
    split at h2
    · exact ⟨fun ht => iha hok.1 (h2.1 ht), fun ht => ihb hok.2 (h2.2 ht)⟩
    · exact h2.elim
  | block i a ih =>
    intro hok Q σ h
    refine .in (Wk.mono (fun τ ht => awp_mono a.erase (Q' := AE.inBlock i fun e => Wk (Q e)) (fun e σ h => ?_) ht) (ih hok h))
    cases e with
    | normal => exact h
    | exit j =>
      have e1 : AE.inBlock i Q (.exit j) = if j = i then Q .normal else Q (.exit j) := by funext σ; simp only [AE.inBlock]; split <;> rfl
      rw [e1] at h
      simp only [AE.inBlock]
      split
      · rename_i hi; rw [if_pos hi] at h; exact h
      · rename_i hi; rw [if_neg hi] at h; exact h
    | ret => exact h
  | loop L M a ih =>
    intro hok Q σ h
    obtain ⟨I, h0, h1⟩ := h
    refine .in ⟨I, Wk.trans (keep_le σ L M) (.in h0), fun n σ' hI => Wk.mono (fun τ ht => awp_mono a.erase (Q' := AE.then (Wk fun σ'' => ∃ m, m < n ∧ I m σ'') fun e => Wk (Q e)) (fun e σ h => ?_) ht) (ih hok (h1 n σ' hI))⟩
    cases e with
    | normal =>
      have h' : Wk (fun τ => ∃ m, m < n ∧ I m (τ.keep L M)) σ := h
      exact Wk.bind h' (fun τ ht => Wk.trans (keep_le τ L M) (.in ht))
    | exit j => exact h
    | ret => exact h
  | exit i => intro _ Q σ h; exact .in (.in h)
  | ret => intro _ Q σ h; exact .in (.in h)
  | keep L M a ih => intro hok Q σ h; exact Wk.trans (keep_le σ L M) (ih hok h)
  | own τ A e sz a ih =>
    intro hok Q σ h
    obtain ⟨e', z, h1, h2, h3⟩ := h
    exact Wk.trans (ownNil_le h1 h2) (ih hok h3)
  | swap x y a ih => intro hok Q σ h; exact Wk.trans (sw_le σ x y) (ih hok h)
  | frz τ a ih => intro hok Q σ h; exact Wk.trans (fun _ _ κ _ _ hi => ⟨κ, hi.frz τ⟩) (ih hok h)
theorem Spec.of_awq {f : FuncId} {n : Nat} {c : AQ} {rs : List RX} {args : List V} {S : V → Prop} (hc : cFunc P f = some ⟨n, c.erase, rs⟩) (hok : c.ok = true) (hlen : args.length ≤ n) (h : awq P c (endQ rs S) (St.init args)) : Spec P f args S :=
  Spec.of_cFunc (ac := c.erase) (rs := rs) (n := n) hc hlen (awq_sound c hok (Q := endQ rs S) h)
theorem SpecS.of_awq {f : FuncId} {n : Nat} {c : AQ} {rs : List RX} {args : List V} {o : Nat → Option O} {T : List Nat} {anchors : List (Nat × Nat)} {S : V → (Nat → Option O) → Prop} (hc : cFunc P f = some ⟨n, c.erase, rs⟩) (hok : c.ok = true) (hlen : args.length ≤ n)
    (hav : c.erase.avoids (fun s => anchors.any fun p => p.1 == s) = true) (h : awq P c (endS rs args o T anchors S) ⟨fun s => args.getD s .any, o⟩) : SpecS P f args o (anchors.map (·.2)) S := by
  have h2 := awq_sound c hok h
  have h3 := @SpecS.of_cFunc P f n c.erase rs args o T anchors S hc hlen hav
  with_reducible exact h3 h2
end
end Go.Abs


namespace Go.Abs
abbrev TS := List (Nat × V)
abbrev OS := List (Nat × O)
abbrev KK := TS → OS → Prop
def lookT (s : Nat) : TS → V
  | [] => .any
  | (k, v) :: l => if k = s then v else lookT s l
def lookO (s : Nat) : OS → Option O
  | [] => none
  | (k, v) :: l => if k = s then some v else lookO s l
def insT (s : Nat) (v : V) (l : TS) : TS := (s, v) :: l
theorem lookT_here (s : Nat) (v : V) (l : TS) : lookT s ((s, v) :: l) = v := by simp [lookT]
theorem lookT_next {s k : Nat} (h : (k == s) = false) (v : V) (l : TS) : lookT s ((k, v) :: l) = lookT s l := by
  have : ¬ k = s := by simpa using h
  simp [lookT, this]
def insO (s : Nat) (v : O) (l : OS) : OS := (s, v) :: l
theorem lookO_here (s : Nat) (v : O) (l : OS) : lookO s ((s, v) :: l) = some v := by simp [lookO]
theorem lookO_next {s k : Nat} (h : (k == s) = false) (v : O) (l : OS) : lookO s ((k, v) :: l) = lookO s l := by
  have : ¬ k = s := by simpa using h
  simp [lookO, this]
def mkS (ts : TS) (os : OS) : St := ⟨fun s => lookT s ts, fun s => lookO s os⟩
theorem lookT_ins (d s : Nat) (v : V) (ts : TS) : lookT s (insT d v ts) = if s = d then v else lookT s ts := by
  by_cases h : d = s
  · subst h; simp [insT, lookT]
  · simp [insT, lookT, h, Ne.symm h]
theorem lookO_ins (d s : Nat) (v : O) (os : OS) : lookO s (insO d v os) = if s = d then some v else lookO s os := by
  by_cases h : d = s
  · subst h; simp [insO, lookO]
  · simp [insO, lookO, h, Ne.symm h]
theorem mkS_put (ts : TS) (os : OS) (d : Nat) (v : V) : (mkS ts os).put d v = mkS (insT d v ts) os := by
  simp only [mkS, St.put, St.mk.injEq, and_true]
  funext s; rw [lookT_ins]
theorem mkS_setO (ts : TS) (os : OS) (d : Nat) (v : O) : (mkS ts os).setO d v = mkS ts (insO d v os) := by
  simp only [mkS, St.setO, St.mk.injEq, true_and]
  funext s; rw [lookO_ins]
theorem mkS_new (ts : TS) (os : OS) (d : Nat) (v : O) (x : V) : (mkS ts os).new d v x = mkS (insT d x ts) (insO d v os) := by
  rw [St.new, mkS_setO, mkS_put]
def freeT (d : Nat) : TS → Bool
  | [] => true
  | (k, v) :: l => (k == d || v.noRef d) && freeT d l
def freeO (d : Nat) : OS → Bool
  | [] => true
  | (k, v) :: l => (k == d || v.noRef d) && freeO d l
theorem mkS_Free {ts : TS} {os : OS} {d : Nat} (h1 : freeT d ts = true) (h2 : freeO d os = true) : (mkS ts os).Free d := by
  constructor
  · intro s hs
    show (lookT s ts).noRef d = true
    induction ts with
    | nil => rfl
    | cons p l ih =>
      obtain ⟨k, v⟩ := p
      simp only [freeT, Bool.and_eq_true, Bool.or_eq_true, beq_iff_eq] at h1
      simp only [lookT]
      split
      · rename_i hk; subst hk
        rcases h1.1 with h | h
        · exact absurd h hs
        · exact h
      · exact ih h1.2
  · intro τ ob hob hτ
    have hob' : lookO τ os = some ob := hob
    clear hob
    induction os with
    | nil => simp [lookO] at hob'
    | cons p l ih =>
      obtain ⟨k, v⟩ := p
      simp only [freeO, Bool.and_eq_true, Bool.or_eq_true, beq_iff_eq] at h2
      simp only [lookO] at hob'
      split at hob'
      · rename_i hk; subst hk
        cases hob'
        rcases h2.1 with h | h
        · exact absurd h hτ
        · exact h
      · exact ih h2.2 hob'
def mapT (f : V → V) : TS → TS
  | [] => []
  | (k, v) :: l => (k, f v) :: mapT f l
def mapO (f : O → O) : OS → OS
  | [] => []
  | (k, v) :: l => (k, f v) :: mapO f l
def delO (τ : Nat) : OS → OS
  | [] => []
  | (k, v) :: l => if k = τ then delO τ l else (k, v) :: delO τ l
theorem lookT_map (f : V → V) (hf : f .any = .any) (s : Nat) : ∀ (ts : TS), lookT s (mapT f ts) = f (lookT s ts)
  | [] => hf.symm
  | (k, v) :: l => by
    simp only [mapT, lookT, lookT_map f hf s l]
    split <;> rfl
theorem lookO_map (f : O → O) (s : Nat) : ∀ (os : OS), lookO s (mapO f os) = (lookO s os).map f
  | [] => rfl
  | (k, v) :: l => by
    simp only [mapO, lookO, lookO_map f s l]
    split <;> rfl
theorem lookO_del (τ s : Nat) : ∀ (os : OS), lookO s (delO τ os) = if s = τ then none else lookO s os
  | [] => by simp [delO, lookO]
  | (k, v) :: l => by
    simp only [delO]
    by_cases h : k = τ
    · subst h
      rw [if_pos rfl, lookO_del k s l]
      by_cases h2 : s = k
      · simp [h2]
      · simp [h2, lookO, Ne.symm h2]
    · rw [if_neg h]
      simp only [lookO, lookO_del τ s l]
      by_cases h2 : k = s
      · subst h2; simp [h]
      · simp [h2]
def frzT (τ : Nat) (ts : TS) (os : OS) : Option O → TS
  | none => ts
  | some ob => mapT (fun v => v.frz τ ob) ts
def frzO (τ : Nat) (os : OS) : Option O → OS
  | none => os
  | some ob => mapO (O.frz τ ob) (delO τ os)
theorem mkS_frz (ts : TS) (os : OS) (τ : Nat) : (mkS ts os).frz τ = mkS (frzT τ ts os (lookO τ os)) (frzO τ os (lookO τ os)) := by
  unfold St.frz
  have e : (mkS ts os).o τ = lookO τ os := rfl
  rw [e]
  cases lookO τ os with
  | none => rfl
  | some ob =>
    simp only [mkS, frzT, frzO, St.mk.injEq]
    constructor
    · funext s; rw [lookT_map _ rfl]
    · funext s
      rw [lookO_map, lookO_del]
      split <;> rfl
def keepT (ts : TS) : List Nat → TS
  | [] => []
  | s :: L => (s, lookT s ts) :: keepT ts L
def addO (m : Nat) (o : Option O) (l : OS) : OS := match o with | some ob => (m, ob) :: l | none => l
def keepO (os : OS) : List Nat → OS
  | [] => []
  | m :: M => addO m (lookO m os) (keepO os M)
theorem lookT_keepT (ts : TS) (s : Nat) : ∀ (L : List Nat), lookT s (keepT ts L) = if L.contains s then lookT s ts else .any
  | [] => by simp [keepT, lookT]
  | k :: L => by
    simp only [keepT, lookT, lookT_keepT ts s L, List.contains_cons]
    by_cases h : k = s
    · subst h; simp
    · simp [h, Ne.symm h]
theorem lookO_keepO (os : OS) (s : Nat) : ∀ (M : List Nat), lookO s (keepO os M) = if M.contains s then lookO s os else none
  | [] => by simp [keepO, lookO]
  | k :: M => by
    simp only [keepO, List.contains_cons]
    by_cases h : k = s
    · subst h
      cases ho : lookO k os with
      | none => simp only [addO]; rw [lookO_keepO os k M, ho]; simp
      | some ob => simp [addO, lookO]
    · cases ho : lookO k os with
      | none => simp only [addO]; rw [lookO_keepO os s M]; simp [Ne.symm h]
      | some ob => simp only [addO, lookO, if_neg h]; rw [lookO_keepO os s M]; simp [Ne.symm h]
theorem mkS_keep (ts : TS) (os : OS) (L M : List Nat) : (mkS ts os).keep L M = mkS (keepT ts L) (keepO os M) := by
  simp only [St.keep, mkS, St.mk.injEq]
  constructor
  · funext s; rw [lookT_keepT]
  · funext s; rw [lookO_keepO]; rfl
theorem mkS_nrm (ts : TS) (os : OS) : (mkS ts os).nrm = mkS (mapT V.nrm ts) (mapO O.nrm os) := by
  simp only [St.nrm, mkS, St.mk.injEq]
  constructor
  · funext s; rw [lookT_map _ rfl]
  · funext s; rw [lookO_map]
def initT : Nat → List V → TS
  | _, [] => []
  | k, v :: l => (k, v) :: initT (k + 1) l
theorem lookT_init : ∀ (l : List V) (k s : Nat), lookT s (initT k l) = if k ≤ s then l.getD (s - k) .any else .any
  | [], k, s => by simp [initT, lookT]
  | v :: l, k, s => by
    simp only [initT, lookT]
    by_cases h : k = s
    · subst h; simp
    · rw [if_neg h, lookT_init l (k + 1) s]
      by_cases h2 : k ≤ s
      · rw [if_pos h2, if_pos (by omega)]
        have : s - k = (s - (k + 1)) + 1 := by omega
        rw [this]; simp
      · rw [if_neg h2, if_neg (by omega)]
theorem init_mkS (args : List V) (os : OS) : (⟨fun s => args.getD s .any, fun s => lookO s os⟩ : St) = mkS (initT 0 args) os := by
  simp only [mkS, St.mk.injEq, and_true]
  funext s; rw [lookT_init]; simp
def onS (K : KK) (σ : St) : Prop := ∃ ts os, σ = mkS ts os ∧ K ts os
theorem onS_mk {K : KK} {ts : TS} {os : OS} (h : K ts os) : onS K (mkS ts os) := ⟨ts, os, rfl, h⟩
def look (ts : TS) : AX → V
  | .t s => lookT s ts
  | .v v => v
theorem look_ev (ts : TS) (os : OS) (x : AX) : x.ev (mkS ts os) = look ts x := by cases x <;> rfl
def putK (r : Option (Prop × V)) (K : KK) (d : Nat) (ts : TS) (os : OS) : Prop :=
  match r with | some (p, v) => p ∧ K (insT d v ts) os | none => False
def freeB (d : Nat) (ts : TS) (os : OS) : Prop := (freeT d ts && freeO d os) = true
def boxK (v : V) (K : KK) (d e : Nat) (ts : TS) (os : OS) : Prop :=
  match v with
  | .agg r => freeB d ts os ∧ K (insT d (.k (.ptr d 0)) ts) (insO d (.var e (r.map .c)) os)
  | .k x => x.noRef d = true ∧ freeB d ts os ∧ K (insT d (.k (.ptr d 0)) ts) (insO d (.var e [x]) os)
  | .agk r => r.all (Abs.K.noRef d) = true ∧ freeB d ts os ∧ K (insT d (.k (.ptr d 0)) ts) (insO d (.var e r) os)
  | _ => False
def vRow : V → Option (List C)
  | .k (.c x) => some [x]
  | .agg r => some r
  | _ => none
def vLits : List (Nat × V) → Option (List (Nat × List C))
  | [] => some []
  | (i, v) :: ps => match vRow v, vLits ps with
    | some r, some l => some ((i, r) :: l)
    | _, _ => none
def bsK (l : Option (List (Nat × List C))) (K : KK) (d e sz : Nat) (zero : List C) (len : Nat) (ts : TS) (os : OS) : Prop :=
  match l with
  | some l => freeB d ts os ∧ zero.length = sz ∧ (∀ p ∈ l, p.1 < len ∧ p.2.length = sz) ∧
      K (insT d (.k (.own d)) ts) (insO d (.arr e sz (some false) (l.foldl (fun rows p => rows.set p.1 p.2) (List.replicate len zero))) os)
  | none => False
def bsQ (l : Option (List (Nat × List C))) (K : KK) (d sz : Nat) (zero : List C) (len : Nat) (ts : TS) (os : OS) : Prop :=
  match l with
  | some l => zero.length = sz ∧ (∀ p ∈ l, p.1 < len ∧ p.2.length = sz) ∧
      K (insT d (.list sz (some false) (l.foldl (fun rows p => rows.set p.1 p.2) (List.replicate len zero))) ts) os
  | none => False
def stVarK (ob : Option O) (ks : Option (List Abs.K)) (K : KK) (n τ off : Nat) (ts : TS) (os : OS) : Prop :=
  match ob, ks with
  | some (.var e row), some ks => ks.length = n ∧ off + n ≤ row.length ∧ K ts (insO τ (.var e (splice row off ks)) os)
  | _, _ => False
def stArrK (ob : Option O) (r : Option (List C)) (K : KK) (n τ i off : Nat) (ts : TS) (os : OS) : Prop :=
  match ob, r with
  | some (.arr e sz nl rows), some r => r.length = n ∧ off + n ≤ sz ∧ K ts (insO τ (.arr e sz nl (rows.set i (if off = 0 ∧ n = sz then r else splice (rows.getD i []) off r))) os)
  | _, _ => False
def storeK (x y : V) (K : KK) (n : Nat) (ts : TS) (os : OS) : Prop :=
  match x with
  | .k (.ptr τ off) => stVarK (lookO τ os) y.cells K n τ off ts os
  | .k (.elem τ i off) => stArrK (lookO τ os) (vRow y) K n τ i off ts os
  | _ => False
def mkslK (l c : V) (K : KK) (d e sz bytes : Nat) (zero : List C) (ts : TS) (os : OS) : Prop :=
  match l, c with
  | .k (.c (.int _ l)), .k (.c (.int _ c)) =>
    0 ≤ l ∧ l ≤ c ∧ bytes * c ≤ 281474976710656 ∧ c ≤ 9223372036854775807 ∧ zero.length = sz ∧ freeB d ts os ∧ K (insT d (.k (.own d)) ts) (insO d (.arr e sz (some false) (List.replicate l.toNat zero)) os)
  | _, _ => False
def srcO (sz : Nat) : Option O → Option (Prop × List (List C))
  | some (.arr _ sz' _ rows) => some (sz' = sz, rows)
  | _ => none
def srcV (os : OS) (sz : Nat) : V → Option (Prop × List (List C))
  | .k (.c (.list sz' _ rows)) => some (sz' = sz ∨ rows = [], rows)
  | .k (.own τ) => srcO sz (lookO τ os)
  | _ => none
def appK (ob : Option O) (src : Option (Prop × List (List C))) (K : KK) (d e sz bytes τ : Nat) (ts : TS) (os : OS) : Prop :=
  match ob, src with
  | some (.arr e' sz' nl xs), some (p, ys) => p ∧ e' = e ∧ sz' = sz ∧ xs.length + ys.length ≤ 9223372036854775807 ∧ (xs.length + ys.length) * bytes ≤ 140737488355328 ∧
      K (insT d (.k (.own τ)) (mapT (V.scrub τ) ts)) (insO τ (.arr e sz (nlApp nl ys) (xs ++ ys)) (mapO (O.scrub τ) (delO τ os)))
  | _, _ => False
def appNK (src : Option (Prop × List (List C))) (K : KK) (d e sz bytes : Nat) (ts : TS) (os : OS) : Prop :=
  match src with
  | some (p, ys) => p ∧ freeB d ts os ∧ ys.length ≤ 9223372036854775807 ∧ ys.length * bytes ≤ 140737488355328 ∧ K (insT d (.k (.own d)) ts) (insO d (.arr e sz (nlApp (some true) ys) ys) os)
  | none => False
def appendK (x : V) (src : Option (Prop × List (List C))) (K : KK) (d e sz bytes : Nat) (ts : TS) (os : OS) : Prop :=
  match x with
  | .k (.own τ) => appK (lookO τ os) src K d e sz bytes τ ts os
  | .k (.c (.list _ (some true) [])) => appNK src K d e sz bytes ts os
  | _ => False
def lendO : Option O → V
  | some (.arr _ sz nl rows) => .list sz nl rows
  | _ => .any
def lendL (os : OS) : V → V
  | .k (.own τ) => lendO (lookO τ os)
  | v => v
theorem lendL_eq (ts : TS) (os : OS) (v : V) : v.lend (mkS ts os) = lendL os v := by
  unfold V.lend lendL
  split
  · show (match lookO _ os with | some (.arr _ sz nl rows) => V.list sz nl rows | _ => .any) = _
    unfold lendO
    rfl
  · rename_i h
    split
    · exact absurd rfl (h _)
    · rfl
def freesL (d n : Nat) (ts : TS) (os : OS) : Nat → Prop
  | 0 => True
  | k + 1 => (freeB n ts os ∧ (n = d ∨ (lookT n ts).noRef n = true)) ∧ freesL d (n + 1) ts os k
def addsL (n : Nat) : List O → OS → OS
  | [], os => os
  | ob :: l, os => addsL (n + 1) l (insO n ob os)
def regK (r : V × List O) (K : KK) (d n : Nat) (ts : TS) (os : OS) : Prop :=
  freesL d n ts os r.2.length ∧ K (insT d r.1 ts) (addsL n r.2 os)
def retK (r : V) (K : KK) (ts : TS) (os : OS) : Option Nat → Prop
  | none => K ts os
  | some d => regK (r.reg (regN d r)) K d (regN d r) ts os
def putDK (r : V) (K : KK) (ts : TS) (os : OS) : Option Nat → Prop
  | none => K ts os
  | some d => K (insT d r ts) os
def callK (P : Program) (f : FuncId) (vs : List V) (cs : List C) (K : KK) (d : Option Nat) (ts : TS) (os : OS) : Prop :=
  vs.all (fun v => (lendL os v).isPure) = true ∧ ∃ r, (Spec P f (vs.map (fun v => (lendL os v).norm) ++ cs.map fun c => .k (.c c.norm)) (fun r' => r' = r) ∨ (cs = [] ∧ Spec P f (vs.map (lendL os)) (fun r' => r' = r))) ∧
    (if r.scalar = true then putDK r K ts os d else vs.all (fun v => v.toks.isEmpty) = true ∧ retK r K ts os d)
def callvK (P : Program) (x : V) (vs : List V) (K : KK) (d : Option Nat) (ts : TS) (os : OS) : Prop :=
  match x with
  | .k (.c (.fn f cs)) => callK P f vs cs K d ts os
  | _ => False
def callQK (P : Program) (f : FuncId) (vs : List V) (cs : List C) (K : KK) (d : Nat) (ts : TS) (os : OS) : Prop :=
  vs.all (fun v => (lendL os v).isPure) = true ∧ ∃ r, Spec P f (vs.map (fun v => (lendL os v).norm) ++ cs.map fun c => .k (.c c.norm)) (fun r' => r' = r) ∧
    (r.scalar = true ∨ vs.all (fun v => v.toks.isEmpty) = true) ∧ K (insT d r.fz ts) os
def callvQK (P : Program) (x : V) (vs : List V) (K : KK) (d : Nat) (ts : TS) (os : OS) : Prop :=
  match x with
  | .k (.c (.fn f cs)) => callQK P f vs cs K d ts os
  | _ => False
def callSK (P : Program) (f : FuncId) (vs : List V) (caps : List Cap) (K : KK) (d : Option Nat) (ts : TS) (os : OS) : Prop :=
  ∃ (T A dead : List Nat) (S : V → (Nat → Option O) → Prop),
    ((vs ++ caps.map capV).all (V.within T) = true) ∧ (caps.all (Cap.live (fun s => lookO s os)) = true) ∧ (∀ τ, τ ∈ T → ∀ ob, lookO τ os = some ob → ob.within T = true) ∧
    (∀ τ, τ ∈ T → τ ∈ A ∨ τ ∈ dead) ∧
    SpecS P f ((vs ++ caps.map capV).map V.nrm) (tabIn T fun τ => (lookO τ os).map O.nrm) A S ∧
    ∀ r o', S r o' → (∀ τ, τ ∉ T → o' τ = none) ∧ r.within T = true ∧ (∀ τ ob, o' τ = some ob → ob.within T = true) ∧ onS K (putD ((mkS ts os).back T dead o') d r)
def plainO : Option O → Prop
  | some (.var _ row) => row.flatMap Abs.K.toks = []
  | _ => True
def callFK (P : Program) (f : FuncId) (xs : List AX) (K : KK) (d : Option Nat) (ts : TS) (os : OS) : Prop :=
  ∃ τ, (xs.map (look ts)).flatMap V.hard = [τ] ∧ plainO (lookO τ os) ∧ callK P f (xs.map (look (frzT τ ts os (lookO τ os)))) [] K d (frzT τ ts os (lookO τ os)) (frzO τ os (lookO τ os))
def callOK (P : Program) (f : FuncId) (xs : List AX) (K : KK) (d : Option Nat) (ts : TS) (os : OS) : Prop :=
  (xs.map (look ts)).all (fun v => (lendL os v).isPure) = true ∧ ∃ τ r, Spec P f ((xs.map (look ts)).map fun v => (lendL os v).norm) (fun r' => r' = r) ∧ r.scalar = false ∧
    (xs.map (look ts)).flatMap V.toks = [τ] ∧ plainO (lookO τ os) ∧ retK r K (frzT τ ts os (lookO τ os)) (frzO τ os (lookO τ os)) d
def callSF (P : Program) (f : FuncId) (vs : List V) (xs : List AX) (K : KK) (d : Option Nat) (ts : TS) (os : OS) : Prop :=
  callSK P f vs [] K d ts os ∨ (vs = xs.map (look ts) ∧ (callFK P f xs K d ts os ∨ callOK P f xs K d ts os))
def exL (P : Program) (ts : TS) (os : OS) : AOp → KK → Prop
  | .mov d x, K => K (insT d (look ts x) ts) os
  | .nilL d e sz, K => freeB d ts os ∧ K (insT d (.k (.own d)) ts) (insO d (.arr e sz (some true) []) os)
  | .pick d c a b, K => putK (vPick (look ts c) (look ts a) (look ts b)) K d ts os
  | .alloc d e zero, K => freeB d ts os ∧ K (insT d (.k (.ptr d 0)) ts) (insO d (.var e (zero.map .c)) os)
  | .box d e x, K => boxK (look ts x) K d e ts os
  | .build d zero ps, K => putK (rowV (vBuild (ps.map fun p => (p.1, p.2.1, look ts p.2.2)) (zero.map .c))) K d ts os
  | .bslice d e sz zero len ps, K => bsK (vLits (ps.map fun p => (p.1, look ts p.2))) K d e sz zero len ts os
  | .load d n agg x, K => putK (vLoad (fun s => lookO s os) n agg (look ts x)) K d ts os
  | .store n x y, K => storeK (look ts x) (look ts y) K n ts os
  | .nilchk d x, K => putK (nilchkO (fun s => lookO s os) (look ts x)) K d ts os
  | .bin d op x y, K => putK (vBin op (look ts x) (look ts y)) K d ts os
  | .binB d neg x y, K => putK (vBinB neg (look ts x) (look ts y)) K d ts os
  | .eqAgg d neg tys x y, K => putK (vEqAgg neg tys (look ts x) (look ts y)) K d ts os
  | .nilcmp d neg x, K => putK (vNil (fun s => lookO s os) neg (look ts x)) K d ts os
  | .un d op x, K => putK (vUn op (look ts x)) K d ts os
  | .conv d k x, K => putK (vConv k (look ts x)) K d ts os
  | .mkfn d f caps, K => putK (fnV f (vCaps (fun s => lookO s os) (caps.map (look ts)))) K d ts os
  | .mkslice d e sz bytes zero l c, K => mkslK (look ts l) (look ts c) K d e sz bytes zero ts os
  | .slice d sz x lo hi, K => (look ts x).toks = [] ∧ putK (vSlice sz (lo.map (look ts)) (hi.map (look ts)) (look ts x)) K d ts os
  | .slstr d x lo hi, K => putK (vSlstr (lo.map (look ts)) (hi.map (look ts)) (look ts x)) K d ts os
  | .faddr d off x, K => putK (vFaddr (fun s => lookO s os) off (look ts x)) K d ts os
  | .field d off n agg x, K => putK (vField off n agg (look ts x)) K d ts os
  | .iaddr d sz x i, K => putK (vIaddr (fun s => lookO s os) sz (look ts x) (look ts i)) K d ts os
  | .iaddrA d sz len x i, K => putK (vIaddrA (fun s => lookO s os) sz len (look ts x) (look ts i)) K d ts os
  | .sidx d x i, K => putK (vSidx (look ts x) (look ts i)) K d ts os
  | .aidx d sz len agg x i, K => putK (vAidx sz len agg (look ts x) (look ts i)) K d ts os
  | .extr d x i, K => putK (vExtr i (look ts x)) K d ts os
  | .call d f xs, K => callK P f (xs.map (look ts)) [] K d ts os ∨ callSF P f (xs.map (look ts)) xs K d ts os
  | .callv d x xs, K => callvK P (look ts x) (xs.map (look ts)) K d ts os ∨ ∃ f caps, look ts x = .k (.fnk f caps) ∧ callSK P f (xs.map (look ts)) caps K d ts os
  | .len d x, K => putK (vLen (fun s => lookO s os) (look ts x)) K d ts os
  | .lenS d x, K => putK (vLenS (look ts x)) K d ts os
  | .cap _ _, _ => False
  | .append d e sz bytes x y, K => appendK (look ts x) (srcV os sz (look ts y)) K d e sz bytes ts os
  | .minmax d isMax x ys, K => putK (vMinmax isMax (ys.map (look ts)) (look ts x)) K d ts os
section
variable {P : Program} {ts : TS} {os : OS}
theorem putK_on {r : Option (Prop × V)} {K : KK} {d : Nat} (h : putK r K d ts os) : putV r (fun v => onS K ((mkS ts os).put d v)) := by
  cases r with
  | none => exact h.elim
  | some pv =>
    refine ⟨h.1, ?_⟩
    show onS K ((mkS ts os).put d pv.2)
    rw [mkS_put]; exact onS_mk h.2
theorem pureK {op : AOp} {r : Option (Prop × V)} {K : KK} {d : Nat} (he : ∀ k : Nat → V → Prop, pureOp (mkS ts os) true op k = putV r (k d)) (h : putK r K d ts os) : pureOp (mkS ts os) true op (fun d v => onS K ((mkS ts os).put d v)) := by
  rw [he]; exact putK_on h
theorem vRow_toks {v : V} {r : List C} (h : vRow v = some r) : v.toks = [] ∧ v.pure = some r := by
  unfold vRow at h
  split at h
  · exact ⟨rfl, h⟩
  · exact ⟨rfl, h⟩
  · simp at h
theorem lits_on : ∀ {ps : List (Nat × AX)} {l : List (Nat × List C)}, vLits (ps.map fun p => (p.1, look ts p.2)) = some l → ∀ {k : St → List (Nat × List C) → Prop}, k (mkS ts os) l → withPures (mkS ts os) ps k
  | [], l, h, k, hk => by simp [vLits] at h; subst h; exact hk
  | (i, x) :: ps, l, h, k, hk => by
    simp only [List.map_cons, vLits] at h
    split at h
    · rename_i r l' hr hl
      cases h
      obtain ⟨ht, hp⟩ := vRow_toks hr
      simp only [withPures, withPure, V.strip, look_ev, ht, St.frzs, hp, true_and]
      exact lits_on hl hk
    · simp at h
theorem litsQ_on : ∀ {ps : List (Nat × AX)} {l : List (Nat × List C)}, vLits (ps.map fun p => (p.1, look ts p.2)) = some l → ∀ {k : List (Nat × List C) → Prop}, k l → pursP (mkS ts os) ps k
  | [], l, h, k, hk => by simp [vLits] at h; subst h; exact hk
  | (i, x) :: ps, l, h, k, hk => by
    simp only [List.map_cons, vLits] at h
    split at h
    · rename_i r l' hr hl
      cases h
      obtain ⟨ht, hp⟩ := vRow_toks hr
      simp only [pursP, V.strip, look_ev, hp, true_and]
      exact litsQ_on hl hk
    · simp at h
theorem scrub_mk (τ : Nat) : (mkS ts os).scrub τ = mkS (mapT (V.scrub τ) ts) (mapO (O.scrub τ) (delO τ os)) := by
  simp only [mkS, St.scrub, St.mk.injEq]
  constructor
  · funext s; rw [lookT_map _ rfl]
  · funext s; rw [lookO_map, lookO_del]; split <;> rfl
theorem src_on {e sz : Nat} {y : AX} {p : Prop} {ys : List (List C)} (h : srcV os sz (look ts y) = some (p, ys)) (hp : p) {k : List (List C) → Prop} (hk : k ys) : exOp.srcP (mkS ts os) e sz y k := by
  simp only [exOp.srcP, evg_ev, look_ev]
  generalize look ts y = v at h ⊢
  unfold srcV at h
  split at h
  · cases h; exact ⟨hp, hk⟩
  · rename_i τ
    show (match lookO τ os with | some (.arr _ sz' _ rows) => sz' = sz ∧ k rows | _ => False)
    cases ho : lookO τ os with
    | none => rw [ho] at h; simp [srcO] at h
    | some ob =>
      cases ob with
      | var => rw [ho] at h; simp [srcO] at h
      | arr e' sz' nl rows =>
        rw [ho] at h
        simp only [srcO, Option.some.injEq, Prod.mk.injEq] at h
        obtain ⟨rfl, rfl⟩ := h
        exact ⟨hp, hk⟩
  · simp at h
theorem frees_on : ∀ {k d n : Nat}, freesL d n ts os k → frees (mkS ts os) d n k
  | 0, _, _, _ => trivial
  | k + 1, d, n, h => by
    obtain ⟨⟨h1, h2⟩, h3⟩ := h
    simp only [freeB, Bool.and_eq_true] at h1
    exact ⟨⟨mkS_Free h1.1 h1.2, h2⟩, frees_on h3⟩
theorem adds_on : ∀ (obs : List O) (n : Nat) (ts : TS) (os : OS), (mkS ts os).adds n obs = mkS ts (addsL n obs os)
  | [], n, ts, os => rfl
  | ob :: l, n, ts, os => by
    simp only [St.adds, addsL, mkS_setO]
    exact adds_on l (n + 1) ts _
theorem call_on {f : FuncId} {xs : List AX} {cs : List C} {K : KK} {d : Option Nat} (h : callK P f (xs.map (look ts)) cs K d ts os) : callP P ((mkS ts os)) d f xs cs (onS K) := by
  obtain ⟨h1, r, h2, h3⟩ := h
  simp only [List.all_map, List.all_eq_true, Function.comp] at h1
  refine ⟨fun _ _ => rfl, fun x hx => ?_, (fun r' => r' = r), ?_, ?_⟩
  · simp only [V.strip, look_ev, lendL_eq]; exact h1 x hx
  · simp only [V.strip, look_ev, lendL_eq]
    rw [List.map_map, List.map_map] at h2; exact h2
  · rintro r' rfl
    split
    · rename_i hs
      rw [if_pos hs] at h3
      cases d with
      | none => exact onS_mk h3
      | some d => exact ⟨_, _, mkS_put ts os d r', h3⟩
    · rename_i hs
      rw [if_neg hs] at h3
      have ht : (xs.flatMap fun x => (x.ev (mkS ts os)).strip.1.toks) = [] := by
        refine List.flatMap_eq_nil_iff.2 fun x hx => ?_
        have := h3.1
        simp only [List.all_map, List.all_eq_true, Function.comp, List.isEmpty_iff] at this
        simp only [V.strip, look_ev]
        exact this x hx
      rw [ht]
      show retP (mkS ts os) d r' (onS K)
      cases d with
      | none => exact onS_mk h3.2
      | some d =>
        refine ⟨frees_on h3.2.1, ?_⟩
        rw [adds_on, mkS_put]
        exact onS_mk h3.2.2
theorem frzs_on {τ : Nat} (h2 : plainO (lookO τ os)) : (mkS ts os).frzs [τ] = mkS (frzT τ ts os (lookO τ os)) (frzO τ os (lookO τ os)) := by
  have e : (mkS ts os).o τ = lookO τ os := rfl
  have hf : (mkS ts os).frzs [τ] = (mkS ts os).frz τ := by
    simp only [St.frzs, e]
    unfold plainO at h2
    split
    · rename_i e' row ho
      rw [ho] at h2
      simp only [] at h2
      rw [h2]; rfl
    · rfl
  rw [hf, mkS_frz]
theorem callO_on {f : FuncId} {xs : List AX} {K : KK} {d : Option Nat} {τ : Nat} {r : V} (h1 : (xs.map (look ts)).all (fun v => (lendL os v).isPure) = true) (h2 : Spec P f ((xs.map (look ts)).map fun v => (lendL os v).norm) (fun r' => r' = r))
    (h3 : r.scalar = false) (h4 : (xs.map (look ts)).flatMap V.toks = [τ]) (h5 : plainO (lookO τ os)) (h : retK r K (frzT τ ts os (lookO τ os)) (frzO τ os (lookO τ os)) d) : callP P (mkS ts os) d f xs [] (onS K) := by
  simp only [List.all_map, List.all_eq_true, Function.comp] at h1
  refine ⟨fun _ _ => rfl, fun x hx => ?_, (fun r' => r' = r), .inl ?_, ?_⟩
  · simp only [V.strip, look_ev, lendL_eq]; exact h1 x hx
  · simp only [V.strip, look_ev, lendL_eq, List.map_nil, List.append_nil]
    rw [List.map_map] at h2; exact h2
  · rintro r' rfl
    rw [if_neg (by simp [h3])]
    have ht : (xs.flatMap fun x => (x.ev (mkS ts os)).strip.1.toks) = [τ] := by
      rw [← h4, List.flatMap_map]
      simp [V.strip, look_ev]
    rw [ht, frzs_on h5]
    show retP (mkS _ _) d r' (onS K)
    cases d with
    | none => exact onS_mk h
    | some d =>
      refine ⟨frees_on h.1, ?_⟩
      rw [adds_on, mkS_put]
      exact onS_mk h.2
theorem callQ_on {f : FuncId} {xs : List AX} {cs : List C} {K : KK} {d : Nat} (h : callQK P f (xs.map (look ts)) cs K d ts os) : callQ P (mkS ts os) d f xs cs (onS K) := by
  obtain ⟨h1, r, h2, h3, h4⟩ := h
  simp only [List.all_map, List.all_eq_true, Function.comp] at h1
  refine ⟨fun _ _ => rfl, fun x hx => ?_, r, ?_, ?_, by rw [mkS_put]; exact onS_mk h4⟩
  · simp only [V.strip, look_ev, lendL_eq]; exact h1 x hx
  · simp only [V.strip, look_ev, lendL_eq]
    rw [List.map_map] at h2; exact h2
  · rcases h3 with h3 | h3
    · exact .inl h3
    · refine .inr fun x hx => ?_
      simp only [List.all_map, List.all_eq_true, Function.comp, List.isEmpty_iff] at h3
      simp only [V.strip, look_ev]
      exact h3 x hx
theorem callS_on {f : FuncId} {xs : List AX} {caps : List Cap} {K : KK} {d : Option Nat} (h : callSK P f (xs.map (look ts)) caps K d ts os) : callS P (mkS ts os) d f xs caps (onS K) := by
  obtain ⟨T, A, dead, S, h1, h2, h3, h4, h5, h6⟩ := h
  have e : xs.map (fun x => x.ev (mkS ts os)) = xs.map (look ts) := List.map_congr_left fun x _ => look_ev ts os x
  refine ⟨T, A, dead, S, ?_, h2, h3, h4, ?_, h6⟩
  · rw [e]; exact h1
  · rw [e]; exact h5
theorem pure_hard {v : V} (h : (lendL os v).isPure = true) : v.hard = [] := by
  cases v with
  | k x => cases x with
    | own τ => rfl
    | c x => rfl
    | _ => simp [lendL, V.isPure] at h
  | agg => rfl
  | _ => simp [lendL, V.isPure] at h
theorem free_on {d : Nat} (h : freeB d ts os) : (mkS ts os).Free d := by
  simp only [freeB, Bool.and_eq_true] at h
  exact mkS_Free h.1 h.2
theorem exL_sound {op : AOp} {K : KK} (h : exL P ts os op K) : exOp P (mkS ts os) op (onS K) := by
  cases op
  case mov d x =>
    show onS K ((mkS ts os).put d (x.ev (mkS ts os)))
    rw [mkS_put, look_ev]; exact onS_mk h
  case nilL d e sz =>
    refine ⟨free_on h.1, ?_⟩
    rw [mkS_new]; exact onS_mk h.2
  case alloc d e zero =>
    refine ⟨free_on h.1, ?_⟩
    rw [mkS_new]; exact onS_mk h.2
  case box d e x =>
    simp only [exOp, evg_ev, look_ev]
    simp only [exL] at h
    generalize look ts x = v at h ⊢
    unfold boxK at h
    split at h
    · refine ⟨free_on h.1, ?_, by rw [mkS_new]; exact onS_mk h.2⟩
      simp [Abs.K.noRef]
    · refine ⟨free_on h.2.1, ?_, by rw [mkS_new]; exact onS_mk h.2.2⟩
      simpa using h.1
    · exact ⟨free_on h.2.1, h.1, by rw [mkS_new]; exact onS_mk h.2.2⟩
    · exact h.elim
  case bslice d e sz zero len ps =>
    simp only [exL] at h
    cases hl : vLits (ps.map fun p => (p.1, look ts p.2)) with
    | none => rw [hl] at h; exact h.elim
    | some l =>
      rw [hl] at h
      exact lits_on hl ⟨free_on h.1, h.2.1, h.2.2.1, by rw [mkS_new]; exact onS_mk h.2.2.2⟩
  case store n x y =>
    simp only [exL] at h
    simp only [exOp, evg_ev, look_ev]
    generalize hv : look ts x = v at h ⊢
    unfold storeK at h
    split at h
    · rename_i τ off
      show (match lookO τ os with | some (.var e row) => _ | _ => False)
      cases ho : lookO τ os with
      | none => rw [ho] at h; exact h.elim
      | some ob =>
        rw [ho] at h
        cases ob with
        | arr => exact h.elim
        | var e row =>
          simp only []
          cases hc : (look ts y).cells with
          | none => rw [hc] at h; exact h.elim
          | some ks =>
            rw [hc] at h
            exact ⟨h.1, h.2.1, by rw [mkS_setO]; exact onS_mk h.2.2⟩
    · rename_i τ i off
      cases hr : vRow (look ts y) with
      | none => rw [hr] at h; unfold stArrK at h; split at h <;> first | exact h.elim | simp_all
      | some r =>
        rw [hr] at h
        obtain ⟨ht, hp⟩ := vRow_toks hr
        simp only [withPure, V.strip, look_ev, ht, St.frzs, hp, true_and, hv]
        show (match lookO τ os with | some (.arr e sz nl rows) => _ | _ => False)
        cases ho : lookO τ os with
        | none => rw [ho] at h; exact h.elim
        | some ob =>
          rw [ho] at h
          cases ob with
          | var => exact h.elim
          | arr e sz nl rows => exact ⟨h.1, h.2.1, by rw [mkS_setO]; exact onS_mk h.2.2⟩
    · exact h.elim
  case mkslice d e sz bytes zero l c =>
    simp only [exL] at h
    simp only [exOp, evg_ev, look_ev]
    generalize look ts l = v at h ⊢
    generalize look ts c = u at h ⊢
    unfold mkslK at h
    split at h
    · obtain ⟨a1, a2, a3, a4, a5, a6, a7⟩ := h
      exact ⟨a1, a2, a3, a4, a5, free_on a6, by rw [mkS_new]; exact onS_mk a7⟩
    · exact h.elim
  case slice d sz x lo hi =>
    simp only [exL] at h
    simp only [exOp, V.strip, look_ev, h.1, St.frzs]
    refine pureK (fun k => ?_) h.2
    rw [pure_slice, look_ev]
    cases lo <;> cases hi <;> simp [look_ev]
  case append d e sz bytes x y =>
    simp only [exL] at h
    simp only [exOp, evg_ev, look_ev]
    generalize look ts x = v at h ⊢
    unfold appendK at h
    split at h
    · rename_i τ
      unfold appK at h
      split at h
      · rename_i ho hs
        obtain ⟨a0, rfl, rfl, a3, a4, a5⟩ := h
        refine src_on hs a0 ?_
        show (match lookO τ os with | some (.arr e' sz' nl xs) => _ | _ => False)
        rw [ho]
        refine ⟨rfl, rfl, a3, a4, ?_⟩
        rw [scrub_mk, mkS_setO, mkS_put]
        exact onS_mk a5
      · exact h.elim
    · unfold appNK at h
      split at h
      · rename_i hs
        exact src_on hs h.1 ⟨free_on h.2.1, h.2.2.1, h.2.2.2.1, by rw [mkS_new]; exact onS_mk h.2.2.2.2⟩
      · exact h.elim
    · exact h.elim
  case cap => exact h.elim
  case call d f xs =>
    simp only [exL] at h
    rcases h with h | h
    · left
      have hh : (xs.flatMap fun x => (x.ev (mkS ts os)).strip.1.hard) = [] := by
        refine List.flatMap_eq_nil_iff.2 fun x hx => ?_
        have := h.1
        simp only [List.all_map, List.all_eq_true, Function.comp] at this
        simp only [V.strip, look_ev]
        exact pure_hard (this x hx)
      rw [hh]
      exact call_on h
    · rcases h with h | ⟨_, ⟨τ, h1, h2, h⟩ | ⟨h1, τ, r, h2, h3, h4, h5, h⟩⟩
      · exact .inr (callS_on h)
      rotate_left
      · left
        have hh : (xs.flatMap fun x => (x.ev (mkS ts os)).strip.1.hard) = [] := by
          refine List.flatMap_eq_nil_iff.2 fun x hx => ?_
          simp only [List.all_map, List.all_eq_true, Function.comp] at h1
          simp only [V.strip, look_ev]
          exact pure_hard (h1 x hx)
        rw [hh]
        exact callO_on h1 h2 h3 h4 h5 h
      · left
        have hh : (xs.flatMap fun x => (x.ev (mkS ts os)).strip.1.hard) = [τ] := by
          rw [← h1, List.flatMap_map]
          simp [V.strip, look_ev]
        have hf : (mkS ts os).frzs [τ] = (mkS ts os).frz τ := by
          have e : (mkS ts os).o τ = lookO τ os := rfl
          simp only [St.frzs, e]
          unfold plainO at h2
          split
          · rename_i e' row ho
            rw [ho] at h2
            simp only [] at h2
            rw [h2]; rfl
          · rfl
        rw [hh, hf, mkS_frz]
        exact call_on h
  case callv d x xs =>
    simp only [exL] at h
    rcases h with h | ⟨f, caps, h1, h⟩
    · right
      unfold callvK at h
      split at h
      · rename_i f cs hx
        have hh : (xs.flatMap fun x => (x.ev (mkS ts os)).strip.1.hard) = [] := by
          refine List.flatMap_eq_nil_iff.2 fun x hx => ?_
          have := h.1
          simp only [List.all_map, List.all_eq_true, Function.comp] at this
          simp only [V.strip, look_ev]
          exact pure_hard (this x hx)
        have ht : (x.ev (mkS ts os)).strip.1.toks ++ (xs.flatMap fun x => (x.ev (mkS ts os)).strip.1.hard) = [] := by
          rw [hh]; simp [V.strip, look_ev, hx, V.toks, Abs.K.toks]
        rw [ht]
        simp only [St.frzs, V.strip, look_ev, hx]
        exact ⟨trivial, call_on h⟩
      · exact h.elim
    · exact .inl ⟨f, caps, by rw [look_ev]; exact h1, callS_on h⟩
  case pick =>
    rw [exOp_plain rfl]
    refine pureK (fun k => ?_) h
    rw [pure_pick]; simp only [look_ev]; try rfl
  case build d zero ps =>
    rw [exOp_plain rfl]
    refine pureK (fun k => ?_) h
    rw [pure_build]; simp only [look_ev]
  case load =>
    rw [exOp_plain rfl]
    refine pureK (fun k => ?_) h
    rw [pure_load]; simp only [look_ev]; try rfl
  case nilchk =>
    rw [exOp_plain rfl]
    refine pureK (fun k => ?_) h
    rw [pure_nilchk]; simp only [look_ev]; try rfl
  case bin =>
    rw [exOp_plain rfl]
    refine pureK (fun k => ?_) h
    rw [pure_bin]; simp only [look_ev]; try rfl
  case binB =>
    rw [exOp_plain rfl]
    refine pureK (fun k => ?_) h
    rw [pure_binB]; simp only [look_ev]; try rfl
  case eqAgg =>
    rw [exOp_plain rfl]
    refine pureK (fun k => ?_) h
    rw [pure_eqAgg]; simp only [look_ev]; try rfl
  case nilcmp =>
    rw [exOp_plain rfl]
    refine pureK (fun k => ?_) h
    rw [pure_nilcmp]; simp only [look_ev]; try rfl
  case un =>
    rw [exOp_plain rfl]
    refine pureK (fun k => ?_) h
    rw [pure_un]; simp only [look_ev]; try rfl
  case conv =>
    rw [exOp_plain rfl]
    refine pureK (fun k => ?_) h
    rw [pure_conv]; simp only [look_ev]; try rfl
  case mkfn =>
    rw [exOp_plain rfl]
    refine pureK (fun k => ?_) h
    rw [pure_mkfn]; simp only [look_ev]; try rfl
  case slstr d x lo hi =>
    rw [exOp_plain rfl]
    refine pureK (fun k => ?_) h
    rw [pure_slstr, look_ev]
    cases lo <;> cases hi <;> simp [look_ev]
  case faddr =>
    rw [exOp_plain rfl]
    refine pureK (fun k => ?_) h
    rw [pure_faddr]; simp only [look_ev]; try rfl
  case field =>
    rw [exOp_plain rfl]
    refine pureK (fun k => ?_) h
    rw [pure_field]; simp only [look_ev]; try rfl
  case iaddr =>
    rw [exOp_plain rfl]
    refine pureK (fun k => ?_) h
    rw [pure_iaddr]; simp only [look_ev]; try rfl
  case iaddrA =>
    rw [exOp_plain rfl]
    refine pureK (fun k => ?_) h
    rw [pure_iaddrA]; simp only [look_ev]; try rfl
  case sidx =>
    rw [exOp_plain rfl]
    refine pureK (fun k => ?_) h
    rw [pure_sidx]; simp only [look_ev]; try rfl
  case aidx =>
    rw [exOp_plain rfl]
    refine pureK (fun k => ?_) h
    rw [pure_aidx]; simp only [look_ev]; try rfl
  case extr =>
    rw [exOp_plain rfl]
    refine pureK (fun k => ?_) h
    rw [pure_extr]; simp only [look_ev]; try rfl
  case len =>
    rw [exOp_plain rfl]
    refine pureK (fun k => ?_) h
    rw [pure_len]; simp only [look_ev]; try rfl
  case lenS =>
    rw [exOp_plain rfl]
    refine pureK (fun k => ?_) h
    rw [pure_lenS]; simp only [look_ev]; try rfl
  case minmax =>
    rw [exOp_plain rfl]
    refine pureK (fun k => ?_) h
    rw [pure_minmax]; simp only [look_ev]; try rfl
def exLQ (P : Program) (ts : TS) (os : OS) : AOp → KK → Prop
  | .mov d x, K => K (insT d (look ts x) ts) os
  | .nilL d e sz, K => freeB d ts os ∧ K (insT d (.k (.own d)) ts) (insO d (.arr e sz (some true) []) os)
  | .pick d c a b, K => putK (vPick (look ts c) (look ts a) (look ts b)) K d ts os
  | .alloc d e zero, K => freeB d ts os ∧ K (insT d (.k (.ptr d 0)) ts) (insO d (.var e (zero.map .c)) os)
  | .box d e x, K => boxK (look ts x) K d e ts os
  | .build d zero ps, K => putK (rowV (vBuild (ps.map fun p => (p.1, p.2.1, look ts p.2.2)) (zero.map .c))) K d ts os
  | .bslice d e sz zero 0 ps, K => bsK (vLits (ps.map fun p => (p.1, look ts p.2))) K d e sz zero 0 ts os
  | .bslice d _ sz zero (len + 1) ps, K => bsQ (vLits (ps.map fun p => (p.1, look ts p.2))) K d sz zero (len + 1) ts os
  | .load d n agg x, K => putK (vLoad (fun s => lookO s os) n agg (look ts x)) K d ts os
  | .store n x y, K => storeK (look ts x) (look ts y) K n ts os
  | .nilchk d x, K => putK (nilchkO (fun s => lookO s os) (look ts x)) K d ts os
  | .bin d op x y, K => putK (vBin op (look ts x) (look ts y)) K d ts os
  | .binB d neg x y, K => putK (vBinB neg (look ts x) (look ts y)) K d ts os
  | .eqAgg d neg tys x y, K => putK (vEqAgg neg tys (look ts x) (look ts y)) K d ts os
  | .nilcmp d neg x, K => putK (vNil (fun s => lookO s os) neg (look ts x)) K d ts os
  | .un d op x, K => putK (vUn op (look ts x)) K d ts os
  | .conv d k x, K => putK (vConv k (look ts x)) K d ts os
  | .mkfn d f caps, K => putK (fnV f (vCaps (fun s => lookO s os) (caps.map (look ts)))) K d ts os
  | .mkslice d e sz bytes zero l c, K => mkslK (look ts l) (look ts c) K d e sz bytes zero ts os
  | .slice d sz x lo hi, K => (look ts x).toks = [] ∧ putK (vSlice sz (lo.map (look ts)) (hi.map (look ts)) (look ts x)) K d ts os
  | .slstr d x lo hi, K => putK (vSlstr (lo.map (look ts)) (hi.map (look ts)) (look ts x)) K d ts os
  | .faddr d off x, K => putK (vFaddr (fun s => lookO s os) off (look ts x)) K d ts os
  | .field d off n agg x, K => putK (vField off n agg (look ts x)) K d ts os
  | .iaddr d sz x i, K => putK (vIaddr (fun s => lookO s os) sz (look ts x) (look ts i)) K d ts os
  | .iaddrA d sz len x i, K => putK (vIaddrA (fun s => lookO s os) sz len (look ts x) (look ts i)) K d ts os
  | .sidx d x i, K => putK (vSidx (look ts x) (look ts i)) K d ts os
  | .aidx d sz len agg x i, K => putK (vAidx sz len agg (look ts x) (look ts i)) K d ts os
  | .extr d x i, K => putK (vExtr i (look ts x)) K d ts os
  | .call (some d) f xs, K => callQK P f (xs.map (look ts)) [] K d ts os
  | .call none f xs, K => callK P f (xs.map (look ts)) [] K none ts os ∨ callSF P f (xs.map (look ts)) xs K none ts os
  | .callv (some d) x xs, K => callvQK P (look ts x) (xs.map (look ts)) K d ts os
  | .callv none x xs, K => callvK P (look ts x) (xs.map (look ts)) K none ts os ∨ ∃ f caps, look ts x = .k (.fnk f caps) ∧ callSK P f (xs.map (look ts)) caps K none ts os
  | .len d x, K => putK (vLen (fun s => lookO s os) (look ts x)) K d ts os
  | .lenS d x, K => putK (vLenS (look ts x)) K d ts os
  | .cap _ _, _ => False
  | .append d e sz bytes x y, K => appendK (look ts x) (srcV os sz (look ts y)) K d e sz bytes ts os
  | .minmax d isMax x ys, K => putK (vMinmax isMax (ys.map (look ts)) (look ts x)) K d ts os
theorem exLQ_sound {op : AOp} {K : KK} (h : exLQ P ts os op K) : exOpQ P (mkS ts os) op (onS K) := by
  by_cases hs : op.special = true
  case neg =>
    have he := exOpQ_eq (P := P) (op := op) (by simpa using hs)
    rw [congrFun (congrFun he (mkS ts os)) (onS K)]
    refine exL_sound ?_
    cases op
    case bslice d e sz zero len ps => cases len with
      | zero => exact h
      | succ n => simp [AOp.special] at hs
    case call d f xs => cases d with
      | none => exact h
      | some d => simp [AOp.special] at hs
    case callv d x xs => cases d with
      | none => exact h
      | some d => simp [AOp.special] at hs
    case slice => simp [AOp.special] at hs
    all_goals exact h
  cases op
  case bslice d e sz zero len ps => cases len with
    | zero => simp [AOp.special] at hs
    | succ n =>
      simp only [exLQ] at h
      cases hl : vLits (ps.map fun p => (p.1, look ts p.2)) with
      | none => rw [hl] at h; exact h.elim
      | some l =>
        rw [hl] at h
        exact litsQ_on hl ⟨h.1, h.2.1, by rw [mkS_put]; exact onS_mk h.2.2⟩
  case call d f xs => cases d with
    | none => simp [AOp.special] at hs
    | some d => exact callQ_on h
  case callv d x xs => cases d with
    | none => simp [AOp.special] at hs
    | some d =>
      simp only [exLQ] at h
      unfold callvQK at h
      split at h
      · rename_i f cs hx
        simp only [exOpQ, V.strip, look_ev, hx]
        exact ⟨trivial, callQ_on h⟩
      · exact h.elim
  case slice d sz x lo hi =>
    simp only [exLQ] at h
    refine ⟨by simp only [V.strip, look_ev]; exact h.1, ?_⟩
    refine pureK (fun k => ?_) h.2
    rw [pure_slice, look_ev]
    cases lo <;> cases hi <;> simp [look_ev]
  all_goals simp [AOp.special] at hs
def condB (t : Bool) (A B : KK) (ts1 ts2 : TS) (os : OS) : Prop := match t with | true => A ts1 os | false => B ts2 os
theorem condB_iff (t : Bool) (A B : KK) (ts1 ts2 : TS) (os : OS) : condB t A B ts1 ts2 os = ((t = true → A ts1 os) ∧ (t = false → B ts2 os)) := by cases t <;> simp [condB]
theorem condB_beq {α : Type} [BEq α] [LawfulBEq α] (a b : α) (A B : KK) (ts1 ts2 : TS) (os : OS) : condB (a == b) A B ts1 ts2 os = ((a = b → A ts1 os) ∧ (¬a = b → B ts2 os)) := by rw [condB_iff]; simp
theorem condB_bne {α : Type} [BEq α] [LawfulBEq α] (a b : α) (A B : KK) (ts1 ts2 : TS) (os : OS) : condB (a != b) A B ts1 ts2 os = ((¬a = b → A ts1 os) ∧ (a = b → B ts2 os)) := by rw [condB_iff]; simp
theorem condB_not (t : Bool) (A B : KK) (ts1 ts2 : TS) (os : OS) : condB (!t) A B ts1 ts2 os = condB t B A ts2 ts1 os := by cases t <;> rfl
def exK (P : Program) (op : AOp) (K : KK) : KK := fun ts os => exL P ts os op K
def exKQ (P : Program) (op : AOp) (K : KK) : KK := fun ts os => exLQ P ts os op K
def guardP (v : V) (want : Bool) (A B : KK) (tsY tsN ts : TS) (os : OS) : Prop :=
  match v, want with
  | .k (.c (.bool b)), true => condB b A B tsY tsN os
  | .k (.c (.bool b)), false => condB b B A tsN tsY os
  | .undef, _ => B ts os
  | _, _ => False
def putDL (d : Option Nat) (K : KK) (ts : TS) (os : OS) : Prop := match d with | some d => K (insT d .undef ts) os | none => K ts os
def wpL (P : Program) (i : AI) (K : KK) (ts : TS) (os : OS) : Prop :=
  match i.g with
  | none => exL P ts os i.op K
  | some (s, want) => guardP (lookT s ts) want (exK P i.op K) (putDL i.op.dst K) (insT s (.bool want) ts) (insT s (.bool !want) ts) ts os
def wpLQ (P : Program) (i : AI) (K : KK) (ts : TS) (os : OS) : Prop :=
  match i.g with
  | none => exLQ P ts os i.op K
  | some (s, want) => guardP (lookT s ts) want (exKQ P i.op K) (putDL i.op.dst K) (insT s (.bool want) ts) (insT s (.bool !want) ts) ts os
def wpLs (P : Program) : List AI → KK → KK
  | [], K, ts, os => K ts os
  | i :: l, K, ts, os => wpL P i (wpLs P l K) ts os
def wpLQs (P : Program) : List AI → KK → KK
  | [], K, ts, os => K ts os
  | i :: l, K, ts, os => wpLQ P i (wpLQs P l K) ts os
def wpLT (P : Program) : DT → KK → KK
  | .done, K, ts, os => K ts os
  | .fail, _, _, _ => False
  | .top, _, _, _ => True
  | .one i t, K, ts, os => wpLQ P i (wpLT P t K) ts os
  | .alt a b, K, ts, os => wpLT P a K ts os ∧ wpLT P b K ts os
theorem putDL_on {d : Option Nat} {K : KK} (h : putDL d K ts os) : onS K (putD (mkS ts os) d .undef) := by
  cases d with
  | none => exact onS_mk h
  | some d => exact ⟨_, _, mkS_put ts os d .undef, h⟩
theorem mkS_same {s : Nat} {v : V} (h : lookT s ts = v) : mkS (insT s v ts) os = mkS ts os := by
  simp only [mkS, St.mk.injEq, and_true]
  funext k
  rw [lookT_ins]
  by_cases hk : k = s
  · subst hk; simp [h]
  · simp [hk]
theorem wpL_on {i : AI} {K : KK} (h : wpL P i K ts os) : wpAI P i (onS K) (mkS ts os) := by
  obtain ⟨g, op⟩ := i
  cases g with
  | none => exact exL_sound h
  | some sw =>
    obtain ⟨s, want⟩ := sw
    simp only [wpL] at h
    simp only [wpAI]
    have e : (mkS ts os).t s = lookT s ts := rfl
    rw [e]
    generalize hv : lookT s ts = v at h
    unfold guardP at h
    split at h
    · rename_i b
      rw [condB_iff] at h
      refine ⟨fun hq => ?_, fun hq => ?_⟩
      · have hb : b = true := by simpa using hq
        subst hb
        have := exL_sound (h.1 rfl)
        rw [mkS_same hv] at this; exact this
      · have hb : b = false := by simpa using hq
        subst hb
        have := putDL_on (h.2 rfl)
        rw [Bool.not_true, mkS_same hv] at this; exact this
    · rename_i b
      rw [condB_iff] at h
      refine ⟨fun hq => ?_, fun hq => ?_⟩
      · have hb : b = false := by simpa using hq
        subst hb
        have := exL_sound (h.2 rfl)
        rw [mkS_same hv] at this; exact this
      · have hb : b = true := by simpa using hq
        subst hb
        have := putDL_on (h.1 rfl)
        rw [Bool.not_false, mkS_same hv] at this; exact this
    · exact putDL_on h
    · exact h.elim
theorem wpLQ_on {i : AI} {K : KK} (h : wpLQ P i K ts os) : wpQ P i (onS K) (mkS ts os) := by
  obtain ⟨g, op⟩ := i
  cases g with
  | none => exact exLQ_sound h
  | some sw =>
    obtain ⟨s, want⟩ := sw
    simp only [wpLQ] at h
    simp only [wpQ]
    have e : (mkS ts os).t s = lookT s ts := rfl
    rw [e]
    generalize hv : lookT s ts = v at h
    unfold guardP at h
    split at h
    · rename_i b
      rw [condB_iff] at h
      refine ⟨fun hq => ?_, fun hq => ?_⟩
      · have hb : b = true := by simpa using hq
        subst hb
        have := exLQ_sound (h.1 rfl)
        rw [mkS_same hv] at this; exact this
      · have hb : b = false := by simpa using hq
        subst hb
        have := putDL_on (h.2 rfl)
        rw [Bool.not_true, mkS_same hv] at this; exact this
    · rename_i b
      rw [condB_iff] at h
      refine ⟨fun hq => ?_, fun hq => ?_⟩
      · have hb : b = false := by simpa using hq
        subst hb
        have := exLQ_sound (h.2 rfl)
        rw [mkS_same hv] at this; exact this
      · have hb : b = true := by simpa using hq
        subst hb
        have := putDL_on (h.1 rfl)
        rw [Bool.not_false, mkS_same hv] at this; exact this
    · exact putDL_on h
    · exact h.elim
theorem onS_elim {K : KK} {F : St → Prop} (h : ∀ ts os, K ts os → F (mkS ts os)) : ∀ σ, onS K σ → F σ := by
  rintro σ ⟨ts, os, rfl, hk⟩
  exact h ts os hk
theorem wpLs_on : ∀ {l : List AI} {K : KK} {ts : TS} {os : OS}, wpLs P l K ts os → wpAIs P l (onS K) (mkS ts os)
  | [], K, ts, os, h => onS_mk h
  | i :: l, K, ts, os, h => wpAI_mono (onS_elim fun _ _ h => wpLs_on h) (wpL_on h)
theorem wpLQs_on : ∀ {l : List AI} {K : KK} {ts : TS} {os : OS}, wpLQs P l K ts os → wpQs P l (onS K) (mkS ts os)
  | [], K, ts, os, h => onS_mk h
  | i :: l, K, ts, os, h => wpQ_mono (onS_elim fun _ _ h => wpLQs_on h) (wpLQ_on h)
theorem wpLT_on : ∀ {t : DT} {K : KK} {ts : TS} {os : OS}, wpLT P t K ts os → wpT P t (onS K) (mkS ts os)
  | .done, K, ts, os, h => onS_mk h
  | .fail, K, ts, os, h => h
  | .top, K, ts, os, h => trivial
  | .one i t, K, ts, os, h => wpQ_mono (onS_elim fun _ _ h => wpLT_on (t := t) h) (wpLQ_on h)
  | .alt a b, K, ts, os, h => ⟨wpLT_on (t := a) h.1, wpLT_on (t := b) h.2⟩
def AE.thenL (next : KK) (Q : AE → KK) : AE → KK
  | .normal => next
  | .exit i => Q (.exit i)
  | .ret => Q .ret
def AE.inBlockL (id : Nat) (Q : AE → KK) : AE → KK
  | .normal => Q .normal
  | .exit i => if i = id then Q .normal else Q (.exit i)
  | .ret => Q .ret
def condK (v : V) (A B : KK) (ts1 ts2 : TS) (os : OS) : Prop :=
  match v with
  | .k (.c (.bool t)) => condB t A B ts1 ts2 os
  | _ => False
def loopK (step : KK → KK) (L M : List Nat) (ts : TS) (os : OS) : Prop :=
  ∃ I : Nat → KK, (∃ n, I n (keepT ts L) (keepO os M)) ∧ ∀ n ts os, I n ts os → step (fun ts' os' => ∃ m, m < n ∧ I m (keepT ts' L) (keepO os' M)) ts os
def learn (ts : TS) (b : Bool) : AX → TS
  | .t s => insT s (.bool b) ts
  | .v _ => ts
theorem learn_same {b : Bool} {c : AX} (h : look ts c = .bool b) : mkS (learn ts b c) os = mkS ts os := by
  cases c with
  | t s => exact mkS_same h
  | v v => rfl
def noAL (A : Nat) (ts : TS) (os : OS) : Prop := (ts.all (fun p => p.2.noRef A) && os.all (fun p => p.1 != A && p.2.noRef A)) = true
def ownK (ob : Option O) (K : KK) (τ A e sz : Nat) (ts : TS) (os : OS) : Prop :=
  match ob with
  | some (.var e' [.c (.list _ (some true) [])]) => noAL A ts os ∧ K ts (insO A (.arr e sz (some true) []) (insO τ (.var e' [.own A]) os))
  | _ => False
theorem noAL_on {A : Nat} (h : noAL A ts os) : (mkS ts os).noA A := by
  unfold noAL at h
  simp only [Bool.and_eq_true, List.all_eq_true, bne_iff_ne, ne_eq] at h
  obtain ⟨h1, h2⟩ := h
  have k1 : ∀ (l : OS), (∀ p, p ∈ l → ¬ p.1 = A ∧ p.2.noRef A = true) → lookO A l = none ∧ ∀ s ob, lookO s l = some ob → ob.noRef A = true := by
    intro l
    induction l with
    | nil => intro _; exact ⟨rfl, fun s ob h => by simp [lookO] at h⟩
    | cons p l ih =>
      intro h
      obtain ⟨i1, i2⟩ := ih (fun q hq => h q (by simp [hq]))
      obtain ⟨p1, p2⟩ := h p (by simp)
      obtain ⟨k, o⟩ := p
      refine ⟨by simp only [lookO, if_neg p1]; exact i1, fun s ob hs => ?_⟩
      simp only [lookO] at hs
      split at hs
      · cases hs; exact p2
      · exact i2 s ob hs
  have k2 : ∀ (l : TS), (∀ p, p ∈ l → p.2.noRef A = true) → ∀ s, (lookT s l).noRef A = true := by
    intro l
    induction l with
    | nil => intro _ s; rfl
    | cons p l ih =>
      intro h s
      obtain ⟨k, v⟩ := p
      simp only [lookT]
      split
      · exact h (k, v) (by simp)
      · exact ih (fun q hq => h q (by simp [hq])) s
  exact ⟨(k1 os h2).1, k2 ts h1, (k1 os h2).2⟩
theorem mkS_ownNil {τ A e sz : Nat} {e' : TypeId} : (mkS ts os).ownNil τ A e sz e' = mkS ts (insO A (.arr e sz (some true) []) (insO τ (.var e' [.own A]) os)) := by
  simp only [St.ownNil, mkS, St.mk.injEq, true_and]
  funext s
  rw [lookO_ins, lookO_ins]
def swO (x y : Nat) : OS → OS
  | [] => []
  | (k, ob) :: l => (sw x y k, ob.sw x y) :: swO x y l
theorem lookO_swO (x y s : Nat) : ∀ (os : OS), lookO s (swO x y os) = (lookO (sw x y s) os).map (O.sw x y)
  | [] => rfl
  | (k, ob) :: l => by
    simp only [swO, lookO]
    by_cases h : k = sw x y s
    · rw [if_pos h, if_pos (by rw [h, sw_sw])]; rfl
    · rw [if_neg h, if_neg (by rintro rfl; rw [sw_sw] at h; exact h rfl), lookO_swO x y s l]
theorem mkS_sw (x y : Nat) : (mkS ts os).sw x y = mkS (mapT (V.sw x y) ts) (swO x y os) := by
  simp only [St.sw, mkS, St.mk.injEq]
  exact ⟨by funext s; rw [lookT_map _ rfl], by funext s; rw [lookO_swO]⟩
def awl (P : Program) : AQ → (AE → KK) → KK
  | .skip, Q, ts, os => Q .normal ts os
  | .region l, Q, ts, os => wpLs P l (Q .normal) ts os
  | .draw l _, Q, ts, os => wpLQs P l (Q .normal) ts os
  | .tree l p, Q, ts, os => wpLT P (treeOf l p) (Q .normal) ts os
  | .seq a b, Q, ts, os => awl P a (AE.thenL (awl P b Q) Q) ts os
  | .cond c a b, Q, ts, os => condK (look ts c) (awl P a Q) (awl P b Q) (learn ts true c) (learn ts false c) os
  | .block id a, Q, ts, os => awl P a (AE.inBlockL id Q) ts os
  | .loop L M a, Q, ts, os => loopK (fun next => awl P a (AE.thenL next Q)) L M ts os
  | .exit id, Q, ts, os => Q (.exit id) ts os
  | .ret, Q, ts, os => Q .ret ts os
  | .keep L M a, Q, ts, os => awl P a Q (keepT ts L) (keepO os M)
  | .own τ A e sz a, Q, ts, os => ownK (lookO τ os) (awl P a Q) τ A e sz ts os
  | .swap x y a, Q, ts, os => awl P a Q (mapT (V.sw x y) ts) (swO x y os)
  | .frz τ a, Q, ts, os => awl P a Q (frzT τ ts os (lookO τ os)) (frzO τ os (lookO τ os))
theorem awq_mono (c : AQ) : ∀ {Q Q' : AE → St → Prop} {σ : St}, (∀ e σ, Q e σ → Q' e σ) → awq P c Q σ → awq P c Q' σ := by
  induction c with
  | skip => intro Q Q' σ hq h; exact hq _ σ h
  | region l => intro Q Q' σ hq h; exact wpAIs_mono (hq .normal) h
  | draw l p => intro Q Q' σ hq h; exact wpQs_mono (hq .normal) h
  | tree l p => intro Q Q' σ hq h; exact wpT_mono (hq .normal) h
  | seq a b iha ihb =>
    intro Q Q' σ hq h
    exact iha (then_mono (fun σ h => ihb hq h) hq) h
  | cond c a b iha ihb =>
    intro Q Q' σ hq h
    simp only [awq, evg_ev] at h ⊢
    generalize AX.ev σ c = v at h ⊢
    split at h
    · exact ⟨fun ht => iha hq (h.1 ht), fun ht => ihb hq (h.2 ht)⟩
    · exact h.elim
  | block i a ih =>
    intro Q Q' σ hq h
    exact ih (inBlock_mono hq) h
  | loop L M a ih =>
    intro Q Q' σ hq h
    obtain ⟨I, h0, h1⟩ := h
    exact ⟨I, h0, fun n σ' hI => ih (then_mono (fun σ h => h) hq) (h1 n σ' hI)⟩
  | exit i => intro Q Q' σ hq h; exact hq _ σ h
  | ret => intro Q Q' σ hq h; exact hq _ σ h
  | keep L M a ih => intro Q Q' σ hq h; exact ih hq h
  | own τ A e sz a ih =>
    intro Q Q' σ hq h
    obtain ⟨e', z, h1, h2, h3⟩ := h
    exact ⟨e', z, h1, h2, ih hq h3⟩
  | swap x y a ih => intro Q Q' σ hq h; exact ih hq h
  | frz τ a ih => intro Q Q' σ hq h; exact ih hq h
theorem awl_on (c : AQ) : ∀ {Q : AE → KK} {ts : TS} {os : OS}, awl P c Q ts os → awq P c (fun e => onS (Q e)) (mkS ts os) := by
  induction c with
  | skip => intro Q ts os h; exact onS_mk h
  | region l => intro Q ts os h; exact wpLs_on h
  | draw l p => intro Q ts os h; exact wpLQs_on h
  | tree l p => intro Q ts os h; exact wpLT_on h
  | seq a b iha ihb =>
    intro Q ts os h
    refine awq_mono a (fun e σ h => ?_) (iha h)
    cases e with
    | normal => exact onS_elim (fun _ _ h => ihb h) σ h
    | exit i => exact h
    | ret => exact h
  | cond c a b iha ihb =>
    intro Q ts os h
    simp only [awl] at h
    simp only [awq, evg_ev, look_ev]
    generalize hv : look ts c = v at h ⊢
    unfold condK at h
    split at h
    · rename_i t
      rw [condB_iff] at h
      refine ⟨fun ht => ?_, fun ht => ?_⟩
      · have := iha (h.1 ht)
        rw [learn_same (by rw [hv, ht])] at this; exact this
      · have := ihb (h.2 ht)
        rw [learn_same (by rw [hv, ht])] at this; exact this
    · exact h.elim
  | block i a ih =>
    intro Q ts os h
    refine awq_mono a (fun e σ h => ?_) (ih h)
    cases e with
    | normal => exact h
    | exit j =>
      simp only [AE.inBlockL] at h
      simp only [AE.inBlock]
      split
      · rename_i hi; rw [if_pos hi] at h; exact h
      · rename_i hi; rw [if_neg hi] at h; exact h
    | ret => exact h
  | loop L M a ih =>
    intro Q ts os h
    obtain ⟨I, ⟨n, h0⟩, h1⟩ := h
    refine ⟨fun n => onS (I n), ⟨n, by rw [mkS_keep]; exact onS_mk h0⟩, fun n => onS_elim fun ts os hI => ?_⟩
    refine awq_mono a (fun e σ h => ?_) (ih (h1 n ts os hI))
    cases e with
    | normal =>
      obtain ⟨ts', os', rfl, m, hm, hI'⟩ := h
      exact ⟨m, hm, by rw [mkS_keep]; exact onS_mk hI'⟩
    | exit j => exact h
    | ret => exact h
  | exit i => intro Q ts os h; exact onS_mk h
  | ret => intro Q ts os h; exact onS_mk h
  | keep L M a ih =>
    intro Q ts os h
    simp only [awq, mkS_keep]
    exact ih h
  | own τ A e sz a ih =>
    intro Q ts os h
    simp only [awl] at h
    have e0 : (mkS ts os).o τ = lookO τ os := rfl
    generalize hob : lookO τ os = ob at h
    unfold ownK at h
    split at h
    · exact ⟨_, _, by rw [e0, hob], noAL_on h.1, by rw [mkS_ownNil]; exact ih h.2⟩
    · exact h.elim
  | swap x y a ih =>
    intro Q ts os h
    simp only [awq, mkS_sw]
    exact ih h
  | frz τ a ih =>
    intro Q ts os h
    simp only [awq, mkS_frz]
    exact ih h
def Next {X : Type} (st : X → TS) (ob : X → OS) (R : X → Prop) (m : X → Nat) (L M : List Nat) (n : Nat) : KK := fun ts os => ∃ y, keepT ts L = st y ∧ keepO os M = ob y ∧ R y ∧ m y < n
theorem Next.intro {X : Type} {st : X → TS} {ob : X → OS} {R : X → Prop} {m : X → Nat} {L M : List Nat} {n : Nat} (y : X) (h1 : keepT ts L = st y) (h2 : keepO os M = ob y) (hR : R y) (hm : m y < n) : Next st ob R m L M n ts os := ⟨y, h1, h2, hR, hm⟩
theorem awl_loop {X : Type} {L M : List Nat} {a : AQ} {Q : AE → KK} (st : X → TS) (ob : X → OS) (R : X → Prop) (m : X → Nat) (x0 : X) (h1 : keepT ts L = st x0) (h2 : keepO os M = ob x0) (hR : R x0)
    (hs : ∀ x, R x → awl P a (AE.thenL (Next st ob R m L M (m x)) Q) (st x) (ob x)) : awl P (.loop L M a) Q ts os := by
  refine ⟨fun n ts os => ∃ x, ts = st x ∧ os = ob x ∧ R x ∧ n = m x, ⟨m x0, x0, h1, h2, hR, rfl⟩, ?_⟩
  rintro n ts os ⟨x, rfl, rfl, hx, rfl⟩
  have e : Next st ob R m L M (m x) = (fun ts' os' => ∃ k, k < m x ∧ ∃ y, keepT ts' L = st y ∧ keepO os' M = ob y ∧ R y ∧ k = m y) := by
    funext ts' os'
    refine propext ⟨?_, ?_⟩
    · rintro ⟨y, a1, a2, a3, a4⟩; exact ⟨m y, a4, y, a1, a2, a3, rfl⟩
    · rintro ⟨k, a1, y, a2, a3, a4, rfl⟩; exact ⟨y, a2, a3, a4, a1⟩
  have := hs x hx
  rw [e] at this
  exact this
def resCell (ob : Option O) (off n : Nat) (agg : Bool) : Option (Prop × V) :=
  match ob with
  | some (.var _ row) => some (off + n ≤ row.length ∧ 0 < n, ofRow agg ((row.drop off).take n))
  | _ => none
def resX (ts : TS) (os : OS) : RX → Option (Prop × V)
  | .t s => some (True, lookT s ts)
  | .cell a n agg => match lookT a ts with
    | .k (.ptr τ off) => resCell (lookO τ os) off n agg
    | _ => none
def resL (ts : TS) (os : OS) : List RX → Option (Prop × List V)
  | [] => some (True, [])
  | x :: l => match resX ts os x, resL ts os l with
    | some (p, v), some (q, vs) => some (p ∧ q, v :: vs)
    | _, _ => none
def endV (v : V) (os : OS) (S : V → Prop) : Prop := (v.owns (fun s => lookO s os)).Nodup ∧ S (v.toNew (fun s => lookO s os))
def endL (r : Option (Prop × List V)) (os : OS) (S : V → Prop) : Prop :=
  match r with
  | some (p, vs) => p ∧ endV (one vs) os S
  | none => False
def endK (rs : List RX) (S : V → Prop) : AE → KK
  | .exit _, _, _ => False
  | _, ts, os => endL (resL (mapT V.nrm ts) (mapO O.nrm os) rs) (mapO O.nrm os) S
theorem resL_on : ∀ {rs : List RX} {p : Prop} {vs : List V} {k : List V → Prop}, resL ts os rs = some (p, vs) → p → k vs → resP (mkS ts os) rs k
  | [], p, vs, k, h, hp, hk => by simp [resL] at h; obtain ⟨_, rfl⟩ := h; exact hk
  | x :: l, p, vs, k, h, hp, hk => by
    simp only [resL] at h
    split at h
    · rename_i q v q' vs' h1 h2
      simp only [Option.some.injEq, Prod.mk.injEq] at h
      obtain ⟨rfl, rfl⟩ := h
      cases x with
      | t s =>
        simp only [resX, Option.some.injEq, Prod.mk.injEq] at h1
        obtain ⟨_, rfl⟩ := h1
        exact ⟨rfl, resL_on h2 hp.2 hk⟩
      | cell a n agg =>
        simp only [resX] at h1
        refine ⟨rfl, ?_⟩
        show (match (lookT a ts) with | .k (.ptr τ off) => _ | _ => False)
        split at h1
        · rename_i τ off ha
          show (match lookO τ os with | some (.var _ row) => _ | _ => False)
          unfold resCell at h1
          split at h1
          · rename_i ho
            simp only [Option.some.injEq, Prod.mk.injEq] at h1
            obtain ⟨rfl, rfl⟩ := h1
            exact ⟨hp.1.1, hp.1.2, resL_on h2 hp.2 hk⟩
          · simp at h1
        · simp at h1
    · simp at h
theorem end_on {rs : List RX} {S : V → Prop} {e : AE} (h : endK rs S e ts os) : endQ rs S e (mkS ts os) := by
  have key : endL (resL (mapT V.nrm ts) (mapO O.nrm os) rs) (mapO O.nrm os) S → retQ rs S (mkS ts os).nrm := by
    intro h
    rw [mkS_nrm]
    cases hr : resL (mapT V.nrm ts) (mapO O.nrm os) rs with
    | none => rw [hr] at h; exact h.elim
    | some pv =>
      obtain ⟨p, vs⟩ := pv
      rw [hr] at h
      exact resL_on hr h.1 h.2
  cases e with
  | normal => exact key h
  | exit i => exact h.elim
  | ret => exact key h
def endSL (r : Option (Prop × List V)) (args : List V) (o : Nat → Option O) (T : List Nat) (anchors : List (Nat × Nat)) (S : V → (Nat → Option O) → Prop) (ts : TS) (os : OS) : Prop :=
  match r with
  | some (p, vs) => p ∧ S (one vs) (tabIn T fun s => lookO s os) ∧ (one vs).within T = true ∧ (∀ τ, τ ∈ T → ∀ ob, lookO τ os = some ob → ob.within T = true) ∧
      ∀ p, p ∈ anchors → lookT p.1 ts = .k (.ptr p.2 0) ∧ args[p.1]? = some (.k (.ptr p.2 0)) ∧ likeVar (o p.2) (lookO p.2 os) = true ∧ p.2 ∈ T
  | none => False
def endSK (rs : List RX) (args : List V) (o : Nat → Option O) (T : List Nat) (anchors : List (Nat × Nat)) (S : V → (Nat → Option O) → Prop) : AE → KK
  | .exit _, _, _ => False
  | _, ts, os => endSL (resL (mapT V.nrm ts) (mapO O.nrm os) rs) args o T anchors S (mapT V.nrm ts) (mapO O.nrm os)
theorem endS_on {rs : List RX} {args : List V} {o : Nat → Option O} {T : List Nat} {anchors : List (Nat × Nat)} {S : V → (Nat → Option O) → Prop} {e : AE} (h : endSK rs args o T anchors S e ts os) : endS rs args o T anchors S e (mkS ts os) := by
  have key : endSL (resL (mapT V.nrm ts) (mapO O.nrm os) rs) args o T anchors S (mapT V.nrm ts) (mapO O.nrm os) → retS rs args o T anchors S (mkS ts os).nrm := by
    intro h
    rw [mkS_nrm]
    cases hr : resL (mapT V.nrm ts) (mapO O.nrm os) rs with
    | none => rw [hr] at h; exact h.elim
    | some pv =>
      obtain ⟨p, vs⟩ := pv
      rw [hr] at h
      exact resL_on hr h.1 h.2
  cases e with
  | normal => exact key h
  | exit i => exact h.elim
  | ret => exact key h
def tabL (T : List Nat) (L : OS) : Nat → Option O := tabIn T fun s => lookO s L
theorem SpecS.of_awl {f : FuncId} {n : Nat} {c : AQ} {rs : List RX} {args : List V} {L : OS} {T : List Nat} {anchors : List (Nat × Nat)} {S : V → (Nat → Option O) → Prop} (hc : cFunc P f = some ⟨n, c.erase, rs⟩) (hok : c.ok = true) (hlen : args.length ≤ n)
    (hav : c.erase.avoids (fun s => anchors.any fun p => p.1 == s) = true) (hL : ∀ p, p ∈ L → p.1 ∈ T) (h : awl P c (endSK rs args (tabL T L) T anchors S) (initT 0 args) L) : SpecS P f args (tabL T L) (anchors.map (·.2)) S := by
  refine SpecS.of_awq (T := T) hc hok hlen hav ?_
  have e : (⟨fun s => args.getD s .any, tabL T L⟩ : St) = mkS (initT 0 args) L := by
    have e2 : tabL T L = fun s => lookO s L := by
      funext s
      unfold tabL tabIn
      split
      · rfl
      · rename_i hs
        symm
        have : ∀ l : OS, (∀ p, p ∈ l → p.1 ∈ T) → lookO s l = none := by
          intro l
          induction l with
          | nil => intro _; rfl
          | cons p l ih =>
            intro h
            have hp := h p (by simp)
            have hne : ¬ p.1 = s := by rintro rfl; exact hs (by simpa using hp)
            simp only [lookO, if_neg hne]
            exact ih (fun q hq => h q (by simp [hq]))
        exact this L hL
    rw [e2]; exact init_mkS args L
  rw [e]
  exact awq_mono c (fun e => onS_elim fun _ _ h => endS_on h) (awl_on c h)
theorem Spec.of_awl {f : FuncId} {n : Nat} {c : AQ} {rs : List RX} {args : List V} {S : V → Prop} (hc : cFunc P f = some ⟨n, c.erase, rs⟩) (hok : c.ok = true) (hlen : args.length ≤ n) (h : awl P c (endK rs S) (initT 0 args) []) : Spec P f args S := by
  refine Spec.of_awq hc hok hlen ?_
  have e : St.init args = mkS (initT 0 args) [] := init_mkS args []
  rw [e]
  exact awq_mono c (fun e => onS_elim fun _ _ h => end_on h) (awl_on c h)
theorem Spec.of_awlS {f : FuncId} {n : Nat} {c : AQ} {rs : List RX} {args : List V} {X : V} (hc : cFunc P f = some ⟨n, c.erase, rs⟩) (hok : c.ok = true) (hlen : args.length ≤ n) (h : ∀ S : V → Prop, S X → awl P c (endK rs S) (initT 0 args) []) : Spec P f args (fun r => r = X) :=
  Spec.of_awl hc hok hlen (h (fun r => r = X) rfl)
theorem fin {S : V → Prop} {X v : V} (h : S X) (e : v = X) : S v := e ▸ h
theorem callable_of {f : FuncId} {x : AF} (hc : cFunc P f = some x) : Callable P f := by
  unfold cFunc at hc
  simp only [Option.bind_eq_bind, Option.bind_eq_some_iff] at hc
  obtain ⟨fn, hf, c, hb, ac', hcc, rs', hr, hc⟩ := hc
  split at hc
  · simp at hc
  · rename_i hn
    exact ⟨fn, hf, by simp [hb], by simpa using hn⟩
def V.topC : V → List C
  | .k (.c c) => [c]
  | .agg r => r
  | _ => []
theorem Spec.of_len {f : FuncId} {x : AF} {args : List V} {S : V → Prop} (hc : cFunc P f = some x)
    (h : (∀ v, v ∈ args → ∀ c, c ∈ v.topC → ∀ sz nl rows, c = .list sz nl rows → rows.length ≤ 9223372036854775807) → Spec P f args S) : Spec P f args S := by
  refine ⟨callable_of hc, fun w Z vs hG hz ha => (h ?_).2 w Z vs hG hz ha⟩
  rintro v hv c hcm sz nl rows rfl
  obtain ⟨j, hj⟩ := List.getElem?_of_mem hv
  have hlt : j < vs.toList.length := by rw [ha.1]; exact (List.getElem?_eq_some_iff.1 hj).1
  obtain ⟨hpu, hr⟩ := ha.2 j _ _ hj (List.getElem?_eq_getElem hlt)
  generalize vs.toList[j] = u at hr
  have key : ∀ u', PRep w Z (.list sz nl rows) u' → rows.length ≤ 9223372036854775807 := by
    intro u' hp
    cases hp with
    | nil => simp
    | emp => simp
    | list b o cap _ _ _ val h1 h2 h3 =>
      have : cap ≤ 9223372036854775807 := h3
      omega
  cases v with
  | k x =>
    cases x with
    | c y =>
      simp only [V.topC, List.mem_singleton] at hcm
      subst hcm
      exact key u hr.2
    | _ => simp [V.isPure] at hpu
  | agg r =>
    obtain ⟨cs, rfl, hrow⟩ := hr
    obtain ⟨k, hk⟩ := List.getElem?_of_mem (show C.list sz nl rows ∈ r from hcm)
    have hkl : k < cs.toList.length := by rw [hrow.1]; exact (List.getElem?_eq_some_iff.1 hk).1
    exact key _ (hrow.2 k _ _ hk (List.getElem?_eq_getElem hkl))
  | _ => simp [V.isPure] at hpu
end
end Go.Abs


namespace Go.Abs
theorem q_wpLs_eq_1 : type_of% @Go.Abs.wpLs.eq_1 := id @Go.Abs.wpLs.eq_1
theorem q_wpLs_eq_2 : type_of% @Go.Abs.wpLs.eq_2 := id @Go.Abs.wpLs.eq_2
theorem q_wpLQs_eq_1 : type_of% @Go.Abs.wpLQs.eq_1 := id @Go.Abs.wpLQs.eq_1
theorem q_wpLQs_eq_2 : type_of% @Go.Abs.wpLQs.eq_2 := id @Go.Abs.wpLQs.eq_2
theorem q_wpL_eq_1 : type_of% @Go.Abs.wpL.eq_1 := id @Go.Abs.wpL.eq_1
theorem q_wpLQ_eq_1 : type_of% @Go.Abs.wpLQ.eq_1 := id @Go.Abs.wpLQ.eq_1
theorem q_putDL_eq_1 : type_of% @Go.Abs.putDL.eq_1 := id @Go.Abs.putDL.eq_1
theorem q_AOp_dst_eq_1 : type_of% @Go.Abs.AOp.dst.eq_1 := id @Go.Abs.AOp.dst.eq_1
theorem q_AOp_dst_eq_3 : type_of% @Go.Abs.AOp.dst.eq_3 := id @Go.Abs.AOp.dst.eq_3
theorem q_AOp_dst_eq_7 : type_of% @Go.Abs.AOp.dst.eq_7 := id @Go.Abs.AOp.dst.eq_7
theorem q_AOp_dst_eq_8 : type_of% @Go.Abs.AOp.dst.eq_8 := id @Go.Abs.AOp.dst.eq_8
theorem q_AOp_dst_eq_10 : type_of% @Go.Abs.AOp.dst.eq_10 := id @Go.Abs.AOp.dst.eq_10
theorem q_AOp_dst_eq_11 : type_of% @Go.Abs.AOp.dst.eq_11 := id @Go.Abs.AOp.dst.eq_11
theorem q_AOp_dst_eq_14 : type_of% @Go.Abs.AOp.dst.eq_14 := id @Go.Abs.AOp.dst.eq_14
theorem q_AOp_dst_eq_22 : type_of% @Go.Abs.AOp.dst.eq_22 := id @Go.Abs.AOp.dst.eq_22
theorem q_AOp_dst_eq_24 : type_of% @Go.Abs.AOp.dst.eq_24 := id @Go.Abs.AOp.dst.eq_24
theorem q_AOp_dst_eq_27 : type_of% @Go.Abs.AOp.dst.eq_27 := id @Go.Abs.AOp.dst.eq_27
theorem q_AOp_dst_eq_28 : type_of% @Go.Abs.AOp.dst.eq_28 := id @Go.Abs.AOp.dst.eq_28
theorem q_AOp_dst_eq_32 : type_of% @Go.Abs.AOp.dst.eq_32 := id @Go.Abs.AOp.dst.eq_32
theorem q_exL_eq_1 : type_of% @Go.Abs.exL.eq_1 := id @Go.Abs.exL.eq_1
theorem q_exL_eq_2 : type_of% @Go.Abs.exL.eq_2 := id @Go.Abs.exL.eq_2
theorem q_exL_eq_3 : type_of% @Go.Abs.exL.eq_3 := id @Go.Abs.exL.eq_3
theorem q_exL_eq_7 : type_of% @Go.Abs.exL.eq_7 := id @Go.Abs.exL.eq_7
theorem q_exL_eq_8 : type_of% @Go.Abs.exL.eq_8 := id @Go.Abs.exL.eq_8
theorem q_exL_eq_11 : type_of% @Go.Abs.exL.eq_11 := id @Go.Abs.exL.eq_11
theorem q_exL_eq_12 : type_of% @Go.Abs.exL.eq_12 := id @Go.Abs.exL.eq_12
theorem q_exL_eq_15 : type_of% @Go.Abs.exL.eq_15 := id @Go.Abs.exL.eq_15
theorem q_exL_eq_16 : type_of% @Go.Abs.exL.eq_16 := id @Go.Abs.exL.eq_16
theorem q_exL_eq_18 : type_of% @Go.Abs.exL.eq_18 := id @Go.Abs.exL.eq_18
theorem q_exL_eq_20 : type_of% @Go.Abs.exL.eq_20 := id @Go.Abs.exL.eq_20
theorem q_exL_eq_23 : type_of% @Go.Abs.exL.eq_23 := id @Go.Abs.exL.eq_23
theorem q_exL_eq_25 : type_of% @Go.Abs.exL.eq_25 := id @Go.Abs.exL.eq_25
theorem q_exL_eq_27 : type_of% @Go.Abs.exL.eq_27 := id @Go.Abs.exL.eq_27
theorem q_exL_eq_28 : type_of% @Go.Abs.exL.eq_28 := id @Go.Abs.exL.eq_28
theorem q_exL_eq_29 : type_of% @Go.Abs.exL.eq_29 := id @Go.Abs.exL.eq_29
theorem q_exL_eq_30 : type_of% @Go.Abs.exL.eq_30 := id @Go.Abs.exL.eq_30
theorem q_exL_eq_31 : type_of% @Go.Abs.exL.eq_31 := id @Go.Abs.exL.eq_31
theorem q_exL_eq_33 : type_of% @Go.Abs.exL.eq_33 := id @Go.Abs.exL.eq_33
theorem q_exLQ_eq_1 : type_of% @Go.Abs.exLQ.eq_1 := id @Go.Abs.exLQ.eq_1
theorem q_exLQ_eq_9 : type_of% @Go.Abs.exLQ.eq_9 := id @Go.Abs.exLQ.eq_9
theorem q_exLQ_eq_12 : type_of% @Go.Abs.exLQ.eq_12 := id @Go.Abs.exLQ.eq_12
theorem q_exLQ_eq_21 : type_of% @Go.Abs.exLQ.eq_21 := id @Go.Abs.exLQ.eq_21
theorem q_exLQ_eq_24 : type_of% @Go.Abs.exLQ.eq_24 := id @Go.Abs.exLQ.eq_24
theorem q_look_eq_1 : type_of% @Go.Abs.look.eq_1 := id @Go.Abs.look.eq_1
theorem q_look_eq_2 : type_of% @Go.Abs.look.eq_2 := id @Go.Abs.look.eq_2
theorem q_lookO_eq_1 : type_of% @Go.Abs.lookO.eq_1 := id @Go.Abs.lookO.eq_1
theorem q_insT_eq_1 : type_of% @Go.Abs.insT.eq_1 := id @Go.Abs.insT.eq_1
theorem q_insO_eq_1 : type_of% @Go.Abs.insO.eq_1 := id @Go.Abs.insO.eq_1
theorem q_awl_eq_1 : type_of% @Go.Abs.awl.eq_1 := id @Go.Abs.awl.eq_1
theorem q_awl_eq_2 : type_of% @Go.Abs.awl.eq_2 := id @Go.Abs.awl.eq_2
theorem q_awl_eq_3 : type_of% @Go.Abs.awl.eq_3 := id @Go.Abs.awl.eq_3
theorem q_awl_eq_5 : type_of% @Go.Abs.awl.eq_5 := id @Go.Abs.awl.eq_5
theorem q_awl_eq_6 : type_of% @Go.Abs.awl.eq_6 := id @Go.Abs.awl.eq_6
theorem q_awl_eq_7 : type_of% @Go.Abs.awl.eq_7 := id @Go.Abs.awl.eq_7
theorem q_awl_eq_9 : type_of% @Go.Abs.awl.eq_9 := id @Go.Abs.awl.eq_9
theorem q_awl_eq_10 : type_of% @Go.Abs.awl.eq_10 := id @Go.Abs.awl.eq_10
theorem q_AE_thenL_eq_1 : type_of% @Go.Abs.AE.thenL.eq_1 := id @Go.Abs.AE.thenL.eq_1
theorem q_AE_thenL_eq_2 : type_of% @Go.Abs.AE.thenL.eq_2 := id @Go.Abs.AE.thenL.eq_2
theorem q_AE_thenL_eq_3 : type_of% @Go.Abs.AE.thenL.eq_3 := id @Go.Abs.AE.thenL.eq_3
theorem q_AE_inBlockL_eq_1 : type_of% @Go.Abs.AE.inBlockL.eq_1 := id @Go.Abs.AE.inBlockL.eq_1
theorem q_AE_inBlockL_eq_2 : type_of% @Go.Abs.AE.inBlockL.eq_2 := id @Go.Abs.AE.inBlockL.eq_2
theorem q_AE_inBlockL_eq_3 : type_of% @Go.Abs.AE.inBlockL.eq_3 := id @Go.Abs.AE.inBlockL.eq_3
theorem q_learn_eq_1 : type_of% @Go.Abs.learn.eq_1 := id @Go.Abs.learn.eq_1
theorem q_initT_eq_1 : type_of% @Go.Abs.initT.eq_1 := id @Go.Abs.initT.eq_1
theorem q_initT_eq_2 : type_of% @Go.Abs.initT.eq_2 := id @Go.Abs.initT.eq_2
theorem q_putK_eq_1 : type_of% @Go.Abs.putK.eq_1 := id @Go.Abs.putK.eq_1
theorem q_vBin_eq_1 : type_of% @Go.Abs.vBin.eq_1 := id @Go.Abs.vBin.eq_1
theorem q_resV_eq_1 : type_of% @Go.Abs.resV.eq_1 := id @Go.Abs.resV.eq_1
theorem q_binV_eq_1 : type_of% @Go.Abs.binV.eq_1 := id @Go.Abs.binV.eq_1
theorem q_binV_eq_2 : type_of% @Go.Abs.binV.eq_2 := id @Go.Abs.binV.eq_2
theorem q_binInt_eq_3 : type_of% @Go.Abs.binInt.eq_3 := id @Go.Abs.binInt.eq_3
theorem q_cutInt_eq_1 : type_of% @Go.Abs.cutInt.eq_1 := id @Go.Abs.cutInt.eq_1
theorem q_cutInt_eq_2 : type_of% @Go.Abs.cutInt.eq_2 := id @Go.Abs.cutInt.eq_2
theorem q_cutInt_eq_3 : type_of% @Go.Abs.cutInt.eq_3 := id @Go.Abs.cutInt.eq_3
theorem q_cutInt_eq_4 : type_of% @Go.Abs.cutInt.eq_4 := id @Go.Abs.cutInt.eq_4
theorem q_cutInt_eq_5 : type_of% @Go.Abs.cutInt.eq_5 := id @Go.Abs.cutInt.eq_5
theorem q_cutInt_eq_6 : type_of% @Go.Abs.cutInt.eq_6 := id @Go.Abs.cutInt.eq_6
theorem q_cutInt_eq_7 : type_of% @Go.Abs.cutInt.eq_7 := id @Go.Abs.cutInt.eq_7
theorem q_cutInt_eq_8 : type_of% @Go.Abs.cutInt.eq_8 := id @Go.Abs.cutInt.eq_8
theorem q_cutInt_eq_9 : type_of% @Go.Abs.cutInt.eq_9 := id @Go.Abs.cutInt.eq_9
theorem q_cutInt_eq_10 : type_of% @Go.Abs.cutInt.eq_10 := id @Go.Abs.cutInt.eq_10
theorem q_cutInt_eq_11 : type_of% @Go.Abs.cutInt.eq_11 := id @Go.Abs.cutInt.eq_11
theorem q_binStr_eq_1 : type_of% @Go.Abs.binStr.eq_1 := id @Go.Abs.binStr.eq_1
theorem q_binStr_eq_2 : type_of% @Go.Abs.binStr.eq_2 := id @Go.Abs.binStr.eq_2
theorem q_binStr_eq_3 : type_of% @Go.Abs.binStr.eq_3 := id @Go.Abs.binStr.eq_3
theorem q_vBinB_eq_1 : type_of% @Go.Abs.vBinB.eq_1 := id @Go.Abs.vBinB.eq_1
theorem q_vUn_eq_1 : type_of% @Go.Abs.vUn.eq_1 := id @Go.Abs.vUn.eq_1
theorem q_unV_eq_1 : type_of% @Go.Abs.unV.eq_1 := id @Go.Abs.unV.eq_1
theorem q_unV_eq_2 : type_of% @Go.Abs.unV.eq_2 := id @Go.Abs.unV.eq_2
theorem q_mapC_eq_1 : type_of% @Go.Abs.mapC.eq_1 := id @Go.Abs.mapC.eq_1
theorem q_vConv_eq_1 : type_of% @Go.Abs.vConv.eq_1 := id @Go.Abs.vConv.eq_1
theorem q_vExtr_eq_1 : type_of% @Go.Abs.vExtr.eq_1 := id @Go.Abs.vExtr.eq_1
theorem q_vLenS_eq_1 : type_of% @Go.Abs.vLenS.eq_1 := id @Go.Abs.vLenS.eq_1
theorem q_vSidx_eq_1 : type_of% @Go.Abs.vSidx.eq_1 := id @Go.Abs.vSidx.eq_1
theorem q_partV_eq_2 : type_of% @Go.Abs.partV.eq_2 := id @Go.Abs.partV.eq_2
theorem q_vLoad_eq_2 : type_of% @Go.Abs.vLoad.eq_2 := id @Go.Abs.vLoad.eq_2
theorem q_vPick_eq_1 : type_of% @Go.Abs.vPick.eq_1 := id @Go.Abs.vPick.eq_1
theorem q_vPick_eq_2 : type_of% @Go.Abs.vPick.eq_2 := id @Go.Abs.vPick.eq_2
theorem q_vPick_eq_3 : type_of% @Go.Abs.vPick.eq_3 := id @Go.Abs.vPick.eq_3
theorem q_vBound_eq_1 : type_of% @Go.Abs.vBound.eq_1 := id @Go.Abs.vBound.eq_1
theorem q_vBound_eq_2 : type_of% @Go.Abs.vBound.eq_2 := id @Go.Abs.vBound.eq_2
theorem q_cutS_eq_1 : type_of% @Go.Abs.cutS.eq_1 := id @Go.Abs.cutS.eq_1
theorem q_vSlstr_eq_1 : type_of% @Go.Abs.vSlstr.eq_1 := id @Go.Abs.vSlstr.eq_1
theorem q_isArrO_eq_1 : type_of% @Go.Abs.isArrO.eq_1 := id @Go.Abs.isArrO.eq_1
theorem q_nlApp_eq_2 : type_of% @Go.Abs.nlApp.eq_2 := id @Go.Abs.nlApp.eq_2
theorem q_vRow_eq_1 : type_of% @Go.Abs.vRow.eq_1 := id @Go.Abs.vRow.eq_1
theorem q_vLits_eq_1 : type_of% @Go.Abs.vLits.eq_1 := id @Go.Abs.vLits.eq_1
theorem q_vLits_eq_2 : type_of% @Go.Abs.vLits.eq_2 := id @Go.Abs.vLits.eq_2
theorem q_bsK_eq_1 : type_of% @Go.Abs.bsK.eq_1 := id @Go.Abs.bsK.eq_1
theorem q_mkslK_eq_1 : type_of% @Go.Abs.mkslK.eq_1 := id @Go.Abs.mkslK.eq_1
theorem q_srcO_eq_1 : type_of% @Go.Abs.srcO.eq_1 := id @Go.Abs.srcO.eq_1
theorem q_srcV_eq_2 : type_of% @Go.Abs.srcV.eq_2 := id @Go.Abs.srcV.eq_2
theorem q_appK_eq_1 : type_of% @Go.Abs.appK.eq_1 := id @Go.Abs.appK.eq_1
theorem q_appendK_eq_1 : type_of% @Go.Abs.appendK.eq_1 := id @Go.Abs.appendK.eq_1
theorem q_mapT_eq_1 : type_of% @Go.Abs.mapT.eq_1 := id @Go.Abs.mapT.eq_1
theorem q_mapT_eq_2 : type_of% @Go.Abs.mapT.eq_2 := id @Go.Abs.mapT.eq_2
theorem q_mapO_eq_1 : type_of% @Go.Abs.mapO.eq_1 := id @Go.Abs.mapO.eq_1
theorem q_mapO_eq_2 : type_of% @Go.Abs.mapO.eq_2 := id @Go.Abs.mapO.eq_2
theorem q_delO_eq_1 : type_of% @Go.Abs.delO.eq_1 := id @Go.Abs.delO.eq_1
theorem q_delO_eq_2 : type_of% @Go.Abs.delO.eq_2 := id @Go.Abs.delO.eq_2
theorem q_freeB_eq_1 : type_of% @Go.Abs.freeB.eq_1 := id @Go.Abs.freeB.eq_1
theorem q_freeT_eq_1 : type_of% @Go.Abs.freeT.eq_1 := id @Go.Abs.freeT.eq_1
theorem q_freeT_eq_2 : type_of% @Go.Abs.freeT.eq_2 := id @Go.Abs.freeT.eq_2
theorem q_freeO_eq_1 : type_of% @Go.Abs.freeO.eq_1 := id @Go.Abs.freeO.eq_1
theorem q_freeO_eq_2 : type_of% @Go.Abs.freeO.eq_2 := id @Go.Abs.freeO.eq_2
theorem q_V_noRef_eq_1 : type_of% @Go.Abs.V.noRef.eq_1 := id @Go.Abs.V.noRef.eq_1
theorem q_V_noRef_eq_4 : type_of% @Go.Abs.V.noRef.eq_4 := id @Go.Abs.V.noRef.eq_4
theorem q_V_noRef_eq_5 : type_of% @Go.Abs.V.noRef.eq_5 := id @Go.Abs.V.noRef.eq_5
theorem q_K_noRef_eq_1 : type_of% @Go.Abs.K.noRef.eq_1 := id @Go.Abs.K.noRef.eq_1
theorem q_K_noRef_eq_2 : type_of% @Go.Abs.K.noRef.eq_2 := id @Go.Abs.K.noRef.eq_2
theorem q_O_noRef_eq_2 : type_of% @Go.Abs.O.noRef.eq_2 := id @Go.Abs.O.noRef.eq_2
theorem q_V_noRefL_eq_1 : type_of% @Go.Abs.V.noRefL.eq_1 := id @Go.Abs.V.noRefL.eq_1
theorem q_V_noRefL_eq_2 : type_of% @Go.Abs.V.noRefL.eq_2 := id @Go.Abs.V.noRefL.eq_2
theorem q_V_scrub_eq_1 : type_of% @Go.Abs.V.scrub.eq_1 := id @Go.Abs.V.scrub.eq_1
theorem q_V_scrub_eq_5 : type_of% @Go.Abs.V.scrub.eq_5 := id @Go.Abs.V.scrub.eq_5
theorem q_K_scrub_eq_1 : type_of% @Go.Abs.K.scrub.eq_1 := id @Go.Abs.K.scrub.eq_1
theorem q_K_scrub_eq_5 : type_of% @Go.Abs.K.scrub.eq_5 := id @Go.Abs.K.scrub.eq_5
theorem q_O_scrub_eq_2 : type_of% @Go.Abs.O.scrub.eq_2 := id @Go.Abs.O.scrub.eq_2
theorem q_endK_eq_2 : type_of% @Go.Abs.endK.eq_2 := id @Go.Abs.endK.eq_2
theorem q_endL_eq_1 : type_of% @Go.Abs.endL.eq_1 := id @Go.Abs.endL.eq_1
theorem q_endV_eq_1 : type_of% @Go.Abs.endV.eq_1 := id @Go.Abs.endV.eq_1
theorem q_resL_eq_1 : type_of% @Go.Abs.resL.eq_1 := id @Go.Abs.resL.eq_1
theorem q_resL_eq_2 : type_of% @Go.Abs.resL.eq_2 := id @Go.Abs.resL.eq_2
theorem q_resX_eq_1 : type_of% @Go.Abs.resX.eq_1 := id @Go.Abs.resX.eq_1
theorem q_one_eq_1 : type_of% @Go.Abs.one.eq_1 := id @Go.Abs.one.eq_1
theorem q_one_eq_2 : type_of% @Go.Abs.one.eq_2 := id @Go.Abs.one.eq_2
theorem q_V_nrm_eq_1 : type_of% @Go.Abs.V.nrm.eq_1 := id @Go.Abs.V.nrm.eq_1
theorem q_V_nrm_eq_4 : type_of% @Go.Abs.V.nrm.eq_4 := id @Go.Abs.V.nrm.eq_4
theorem q_V_nrm_eq_5 : type_of% @Go.Abs.V.nrm.eq_5 := id @Go.Abs.V.nrm.eq_5
theorem q_K_nrm_eq_1 : type_of% @Go.Abs.K.nrm.eq_1 := id @Go.Abs.K.nrm.eq_1
theorem q_K_nrm_eq_2 : type_of% @Go.Abs.K.nrm.eq_2 := id @Go.Abs.K.nrm.eq_2
theorem q_K_nrm_eq_3 : type_of% @Go.Abs.K.nrm.eq_3 := id @Go.Abs.K.nrm.eq_3
theorem q_V_nrmL_eq_1 : type_of% @Go.Abs.V.nrmL.eq_1 := id @Go.Abs.V.nrmL.eq_1
theorem q_V_nrmL_eq_2 : type_of% @Go.Abs.V.nrmL.eq_2 := id @Go.Abs.V.nrmL.eq_2
theorem q_O_nrm_eq_2 : type_of% @Go.Abs.O.nrm.eq_2 := id @Go.Abs.O.nrm.eq_2
theorem q_V_owns_eq_1 : type_of% @Go.Abs.V.owns.eq_1 := id @Go.Abs.V.owns.eq_1
theorem q_V_owns_eq_3 : type_of% @Go.Abs.V.owns.eq_3 := id @Go.Abs.V.owns.eq_3
theorem q_K_owns_eq_1 : type_of% @Go.Abs.K.owns.eq_1 := id @Go.Abs.K.owns.eq_1
theorem q_K_owns_eq_2 : type_of% @Go.Abs.K.owns.eq_2 := id @Go.Abs.K.owns.eq_2
theorem q_V_ownsL_eq_1 : type_of% @Go.Abs.V.ownsL.eq_1 := id @Go.Abs.V.ownsL.eq_1
theorem q_V_ownsL_eq_2 : type_of% @Go.Abs.V.ownsL.eq_2 := id @Go.Abs.V.ownsL.eq_2
theorem q_V_toNew_eq_1 : type_of% @Go.Abs.V.toNew.eq_1 := id @Go.Abs.V.toNew.eq_1
theorem q_V_toNew_eq_4 : type_of% @Go.Abs.V.toNew.eq_4 := id @Go.Abs.V.toNew.eq_4
theorem q_K_toNew_eq_1 : type_of% @Go.Abs.K.toNew.eq_1 := id @Go.Abs.K.toNew.eq_1
theorem q_K_toNew_eq_2 : type_of% @Go.Abs.K.toNew.eq_2 := id @Go.Abs.K.toNew.eq_2
theorem q_V_toNewL_eq_1 : type_of% @Go.Abs.V.toNewL.eq_1 := id @Go.Abs.V.toNewL.eq_1
theorem q_V_toNewL_eq_2 : type_of% @Go.Abs.V.toNewL.eq_2 := id @Go.Abs.V.toNewL.eq_2
theorem q_C_norm_eq_3 : type_of% @Go.Abs.C.norm.eq_3 := id @Go.Abs.C.norm.eq_3
theorem q_C_norm_eq_4 : type_of% @Go.Abs.C.norm.eq_4 := id @Go.Abs.C.norm.eq_4
theorem q_C_norm_eq_5 : type_of% @Go.Abs.C.norm.eq_5 := id @Go.Abs.C.norm.eq_5
theorem q_C_norm_eq_6 : type_of% @Go.Abs.C.norm.eq_6 := id @Go.Abs.C.norm.eq_6
theorem q_C_normRow_eq_1 : type_of% @Go.Abs.C.normRow.eq_1 := id @Go.Abs.C.normRow.eq_1
theorem q_C_normRow_eq_2 : type_of% @Go.Abs.C.normRow.eq_2 := id @Go.Abs.C.normRow.eq_2
theorem q_C_normRows_eq_1 : type_of% @Go.Abs.C.normRows.eq_1 := id @Go.Abs.C.normRows.eq_1
theorem q_C_normRows_eq_2 : type_of% @Go.Abs.C.normRows.eq_2 := id @Go.Abs.C.normRows.eq_2
theorem q_regN_eq_2 : type_of% @Go.Abs.regN.eq_2 := id @Go.Abs.regN.eq_2
theorem q_V_reg_eq_3 : type_of% @Go.Abs.V.reg.eq_3 := id @Go.Abs.V.reg.eq_3
theorem q_V_reg_eq_4 : type_of% @Go.Abs.V.reg.eq_4 := id @Go.Abs.V.reg.eq_4
theorem q_V_regL_eq_1 : type_of% @Go.Abs.V.regL.eq_1 := id @Go.Abs.V.regL.eq_1
theorem q_V_regL_eq_2 : type_of% @Go.Abs.V.regL.eq_2 := id @Go.Abs.V.regL.eq_2
theorem q_freesL_eq_1 : type_of% @Go.Abs.freesL.eq_1 := id @Go.Abs.freesL.eq_1
theorem q_addsL_eq_1 : type_of% @Go.Abs.addsL.eq_1 := id @Go.Abs.addsL.eq_1
theorem q_regK_eq_1 : type_of% @Go.Abs.regK.eq_1 := id @Go.Abs.regK.eq_1
theorem q_retK_eq_2 : type_of% @Go.Abs.retK.eq_2 := id @Go.Abs.retK.eq_2
theorem q_List_map_nil {α β : Type} {f : α → β} : List.map f [] = [] := id rfl
theorem q_List_map_cons {α β : Type} {f : α → β} {a : α} {l : List α} : List.map f (a :: l) = f a :: List.map f l := id rfl
theorem q_List_take_succ_cons {α : Type} {a : α} {l : List α} {i : Nat} : List.take (i + 1) (a :: l) = a :: List.take i l := id rfl
theorem q_List_drop_zero {α : Type} {l : List α} : List.drop 0 l = l := id rfl
theorem q_List_nil_append {α : Type} {l : List α} : [] ++ l = l := id rfl
theorem q_List_cons_append {α : Type} {a : α} {l m : List α} : (a :: l) ++ m = a :: (l ++ m) := id rfl
theorem q_List_foldl_cons {α β : Type} {f : β → α → β} {a : α} {l : List α} {b : β} : List.foldl f b (a :: l) = List.foldl f (f b a) l := id rfl
theorem q_List_foldl_nil {α β : Type} {f : β → α → β} {b : β} : List.foldl f b [] = b := id rfl
theorem q_List_replicate_succ {α : Type} {a : α} {n : Nat} : List.replicate (n + 1) a = a :: List.replicate n a := id rfl
theorem q_List_replicate_zero {α : Type} {a : α} : List.replicate 0 a = [] := id rfl
theorem q_List_set_cons_zero {α : Type} {a b : α} {l : List α} : List.set (a :: l) 0 b = b :: l := id rfl
theorem q_List_set_cons_succ {α : Type} {a b : α} {l : List α} {n : Nat} : List.set (a :: l) (n + 1) b = a :: List.set l n b := id rfl
theorem q_List_length_cons {α : Type} {a : α} {l : List α} : (a :: l).length = l.length + 1 := id rfl
theorem q_List_length_nil {α : Type} : ([] : List α).length = 0 := id rfl
theorem q_List_getElemQ_cons_zero {α : Type} {a : α} {l : List α} : (a :: l)[0]? = some a := id rfl
theorem q_List_getElemQ_cons_succ {α : Type} {a : α} {l : List α} {n : Nat} : (a :: l)[n + 1]? = l[n]? := by simp
theorem q_List_getD_cons_zero {α : Type} {a d : α} {l : List α} : (a :: l).getD 0 d = a := id rfl
theorem q_Option_map_some {α β : Type} {f : α → β} {a : α} : Option.map f (some a) = some (f a) := id rfl
theorem q_Option_map_none {α β : Type} {f : α → β} : Option.map f none = none := id rfl
theorem q_Bool_not_true : (!true) = false := id rfl
theorem q_Bool_not_false : (!false) = true := id rfl
theorem q_guardP_eq_1 : type_of% @Go.Abs.guardP.eq_1 := id @Go.Abs.guardP.eq_1
theorem q_guardP_eq_2 : type_of% @Go.Abs.guardP.eq_2 := id @Go.Abs.guardP.eq_2
theorem q_guardP_eq_3 : type_of% @Go.Abs.guardP.eq_3 := id @Go.Abs.guardP.eq_3
theorem q_condK_eq_1 : type_of% @Go.Abs.condK.eq_1 := id @Go.Abs.condK.eq_1
theorem q_condB_eq_1 : type_of% @Go.Abs.condB.eq_1 := id @Go.Abs.condB.eq_1
theorem q_condB_eq_2 : type_of% @Go.Abs.condB.eq_2 := id @Go.Abs.condB.eq_2
theorem q_exK_eq_1 : type_of% @Go.Abs.exK.eq_1 := id @Go.Abs.exK.eq_1
section
variable (τ : Nat) (ob : O) (e : TypeId) (row : List K)
end
section
variable (x y : Nat)
end
section
variable (τ : Nat) (ob : O) (e : TypeId) (sz : Nat) (nl : Option Bool) (rows : List (List C))
end
end Go.Abs


namespace Go.Abs
open Go.Sort Go.Proofs Go.Shelf Go.Lib
section
variable {P : Program} {ρ : Ren} {e : TypeId} {τ : Nat} {l : List Int}
section
variable {f : FuncId} {xs : List AX} {K : KK} {ts : TS} {os : OS} {nl : Option Bool} {X : Prop}
end
end
end Go.Abs


namespace Go.Abs
open Go.Sort Go.Proofs Go.Shelf Go.Lib
section
variable {P : Program} {ρ : Ren} {l : List Int} {w0 : Base} {Z0 : Bk → Prop} {w : World} {κ : Kap} {o : Nat → Option O} {v : Value} {nl : Option Bool}
end
section
variable {P : Program}
def AOp.other : AOp → Bool
  | .mov _ _ => false
  | .call _ _ _ => false
  | _ => true
section
variable {a : Act} {w : World} {ops : Array Oper} {i n : Nat} {o : Oper} {Q : Exit → Act → World → Prop} {K : Act → World → Prop}
end
end
end Go.Abs


namespace Go.Abs
open Go.Proofs Go.Shelf Go.Lib
section
variable {P : Program}
theorem Spec.plain {f : FuncId} {args : List V} {S : V → Prop} (h : Spec P f args S) : Spec P f args (fun r' => ∃ r, S r ∧ r' = r.fz.nrm) := by
  refine ⟨h.1, fun w Z vs hG hz ha => (h.2 w Z vs hG hz ha).mono ?_⟩
  rintro e w' ⟨v, r, rfl, hr, hcl, hrep⟩
  have hnr : ∀ τ, (r.fz.nrm).noRef τ = true := by
    intro τ
    have key : ∀ (r : V), (r.fz).nrm.noRef τ = true := by
      intro r
      have := (fz_noRef τ r).1
      revert this
      generalize r.fz = u
      exact nrm_noRef u
    exact key r
  refine ⟨v, _, rfl, ⟨r, hr, rfl⟩, hnr, fun n => ?_⟩
  obtain ⟨κr, hI⟩ := hrep 0
  have hv := hI.tmps 0
  have e3 : (#[v] : Array Value).getD 0 undef = v := rfl
  simp only [e3, if_true] at hv
  have hreg : ∀ m, ((r.fz.nrm).reg m) = (r.fz.nrm, []) := fun m => reg_fz m r
  rw [hreg]
  refine ⟨fun _ => none, hI.kept, hI.glob, fun τ b h => absurd (by simp [tabOf] : (tabOf n [] : Nat → Option O) τ = none) h, fun τ τ' b h => absurd (by simp [tabOf] : (tabOf n [] : Nat → Option O) τ = none) h, fun τ ob h => ?_, fun s => ?_⟩
  · simp [tabOf] at h
  · by_cases hs : s = 0
    · subst hs
      refine VRep.nrm (fz_rep (Z := Zof (base w) Z κr (tabOf 0 (r.reg 0).2) w') (κ := κr) (o := tabOf 0 (r.reg 0).2) ⟨fun b hb => ?_, fun τ ob hob => ⟨hI.objs τ ob hob, fun c b hb => ?_⟩⟩ r 0 v (fun i ob hob => ?_) hv)
      · exact ⟨hb.1, hb.2.1, fun τ hτ => absurd (by simp [tabOf] : (tabOf n [] : Nat → Option O) τ = none) hτ⟩
      · have := hI.own τ b (by simp only [hob]; simp) hb
        exact ⟨.inr ⟨this.1, soft_of_obj (hI.objs τ ob hob) hb⟩, this.2, fun τ hτ => absurd (by simp [tabOf] : (tabOf n [] : Nat → Option O) τ = none) hτ⟩
      · simp only [tabOf, Nat.zero_le, if_true, Nat.sub_zero, Nat.zero_add]; exact hob
    · simp only [hs, if_false]; trivial
where
  knrm {τ : Nat} : ∀ (k : K), k.noRef τ = true → k.nrm.noRef τ = true := by intro k h; cases k <;> first | exact h | rfl
  nrm_noRef {τ : Nat} : ∀ (u : V), u.noRef τ = true → u.nrm.noRef τ = true
    | .k x, h => by simp only [V.noRef, V.nrm] at h ⊢; exact knrm x h
    | .agg r, h => rfl
    | .agk r, h => by
      simp only [V.noRef, V.nrm, List.all_eq_true, List.mem_map] at h ⊢
      rintro x ⟨y, hy, rfl⟩
      exact knrm y (h y hy)
    | .tup vs, h => by simp only [V.noRef, V.nrm] at h ⊢; exact nrm_noRefL vs h
    | .undef, h => rfl
    | .any, h => rfl
  nrm_noRefL {τ : Nat} : ∀ (us : List V), V.noRefL τ us = true → V.noRefL τ (V.nrmL us) = true
    | [], h => rfl
    | u :: us, h => by simp only [V.noRefL, V.nrmL, Bool.and_eq_true] at h ⊢; exact ⟨nrm_noRef u h.1, nrm_noRefL us h.2⟩
  regs_fz : ∀ (l : List K) (m : Nat), K.regs m ((l.map Abs.K.fz).map Abs.K.nrm) = ((l.map Abs.K.fz).map Abs.K.nrm, [])
    | [], m => rfl
    | k :: l, m => by cases k <;> simp only [List.map_cons, Abs.K.fz, Abs.K.nrm, K.regs, regs_fz l m]
  reg_fz (m : Nat) : ∀ (r : V), (r.fz.nrm).reg m = (r.fz.nrm, [])
    | .k x => by cases x <;> rfl
    | .agg r => rfl
    | .agk r => by
      simp only [V.fz]
      cases e : pureRow (r.map Abs.K.fz) with
      | some cs => rfl
      | none => simp only [V.nrm, V.reg, regs_fz r m]
    | .tup vs => by simp only [V.fz, V.nrm, V.reg, regL_fz m vs]
    | .undef => rfl
    | .any => rfl
  regL_fz (m : Nat) : ∀ (rs : List V), V.regL m (V.nrmL (V.fzL rs)) = (V.nrmL (V.fzL rs), [])
    | [] => rfl
    | r :: rs => by simp only [V.fzL, V.nrmL, V.regL, reg_fz m r, List.length_nil, Nat.add_zero, regL_fz m rs, List.append_nil]
end
end Go.Abs


namespace Go.Abs
open Go.Proofs Go.Shelf Go.Lib
section
variable {P : Program}
theorem rrep_pure {w w' : World} {Z : Bk → Prop} {r : V} {v : Value} (hG : GlobB (base w)) (hk : Kept w w') (hr : ∀ n, r.reg n = (r, [])) (hp : ∀ Z, VRep w' Z (fun _ => none) (fun _ => none) r v) : RRep (base w) Z r v w' := by
  intro n
  have e0 : (tabOf n (r.reg n).2 : Nat → Option O) = fun _ => none := by
    funext τ
    rw [hr]
    simp [tabOf]
  rw [e0, hr]
  refine ⟨fun _ => none, hk, hG, fun τ b h => absurd rfl h, fun τ τ' b h => absurd rfl h, fun τ ob h => (by cases h), fun s => ?_⟩
  by_cases hs : s = 0
  · subst hs
    exact hp _
  · simp only [hs, if_false]; trivial
theorem kept_grow {w : World} (k : Nat) (os : Array Obj) : Kept w (Sort.grow (w.drewN k) os) := by
  refine ⟨rfl, rfl, rfl, ?_, fun b hb => ?_⟩
  · show w.heap.size ≤ (w.heap ++ os).size
    rw [Array.size_append]; omega
  · show (w.heap ++ os)[b]? = w.heap[b]?
    exact Array.getElem?_append_left hb
theorem itoa_spec {ρ : Ren} (L : LaysM.n171 P ρ) (hc : Callable P (ρ.f 171)) (htab : ∀ w, GlobB (base w) → Lib.TabIs P w "internal/strconv.uint64pow10" .u64 Lib.pow10Tab) (n : Int) (h0 : -9223372036854775808 ≤ n) (h1 : n ≤ 9223372036854775807) :
    Spec P (ρ.f 171) [.int .i64 n] (fun r => r = .str (Lib.itoa n)) := by
  refine ⟨hc, fun w Z vs hG hz ha => ?_⟩
  obtain ⟨l⟩ := vs
  match l, ha with
  | [], ha => exact absurd ha.1 (by simp)
  | _ :: _ :: _, ha => exact absurd ha.1 (by simp)
  | [v1], ha =>
    have e1 : v1 = .int .i64 n := prep_int (ha.2 0 _ v1 rfl rfl).2.2
    subst e1
    refine (Any.strconv_Itoa L n h0 h1 w (htab w hG)).mono ?_
    rintro e w' ⟨rfl, k, os, rfl⟩
    exact ⟨_, _, rfl, rfl, fun _ => rfl, rrep_pure hG (kept_grow k os) (fun _ => rfl) (fun _ => ⟨rfl, .str _⟩)⟩
end
end Go.Abs


namespace Go.Abs
open Go.ChangeShapes Go.RowKit
def fldsOk (P : Program) : Nat → List Field → Nat → Bool
  | k, [], n => k == n
  | k, f :: fs, n => f.offset == k && fldsOk P (k + P.cellsOf f.type) fs n
def plainT (P : Program) (T : List TypeId) : Bool := T.all fun t =>
  match P.underlying t with
  | some .bool | some (.int _) | some .string => P.cellsOf t == 1
  | some (.slice e) => P.cellsOf t == 1 && T.contains e && decide (0 < P.cellsOf e)
  | some (.struct fs) => fs.toList.all (fun f => T.contains f.type) && fldsOk P 0 fs.toList (P.cellsOf t)
  | _ => false
def ShapeL (S : TypeId → List C → Prop) : List TypeId → List (List C) → Prop
  | [], [] => True
  | t :: ts, r :: rs => S t r ∧ ShapeL S ts rs
  | _, _ => False
def Shape (P : Program) : Nat → TypeId → List C → Prop
  | 0, _, _ => False
  | n + 1, t, r =>
    match P.underlying t with
    | some .bool => ∃ b, r = [.bool b]
    | some (.int k) => ∃ m, r = [.int k m] ∧ (Lit.int k m).wf = true
    | some .string => ∃ s : List UInt8, r = [.str s] ∧ s.length ≤ 9223372036854775807
    | some (.slice e) => ∃ rows : List (List C), r = [.list (if rows.isEmpty then 0 else P.cellsOf e) none rows] ∧ rows.length ≤ 9223372036854775807 ∧ ∀ x ∈ rows, Shape P n e x
    | some (.struct fs) => ∃ rs, r = rs.flatten ∧ ShapeL (Shape P n) (fs.toList.map (·.type)) rs
    | _ => False
mutual
def C.bulk : C → Nat
  | .str s => s.length + 1
  | .list _ _ rows => C.bulkRows rows + 1
  | _ => 1
def C.bulkRow : List C → Nat
  | [] => 0
  | c :: r => c.bulk + C.bulkRow r
def C.bulkRows : List (List C) → Nat
  | [] => 0
  | r :: l => C.bulkRow r + C.bulkRows l
end
theorem bulkRow_append : ∀ (a b : List C), C.bulkRow (a ++ b) = C.bulkRow a + C.bulkRow b
  | [], b => by simp [C.bulkRow]
  | x :: a, b => by simp only [List.cons_append, C.bulkRow, bulkRow_append a b]; omega
def V.bulk : V → Nat
  | .k (.c c) => c.bulk
  | .agg r => C.bulkRow r
  | _ => 0
def bulkVs : List V → Nat
  | [] => 0
  | v :: l => v.bulk + bulkVs l
structure Bulk {H : Type} (U : DataW H → Nat) (UA : List (DataW H) → Nat) : Prop where
  one : ∀ d, 1 ≤ U d
  str : ∀ s, s.length + 1 ≤ U (.lit (.string s))
  slice : ∀ es sp, UA es + 1 ≤ U (.slice es sp)
  agg : ∀ ps, UA ps ≤ U (.agg ps)
  cons : ∀ d l, UA (d :: l) = U d + UA l
section
variable {H : Type} {enc : TypeId × Value → H} {P : Program} {T : List TypeId}
theorem bulkRows_le {U : DataW H → Nat} {UA : List (DataW H) → Nat} (hB : Bulk U UA) : ∀ (rows : List (List C)) (ds : List (DataW H)), rows.length = ds.length → (∀ (i : Nat) r d, rows[i]? = some r → ds[i]? = some d → C.bulkRow r ≤ U d) → C.bulkRows rows ≤ UA ds
  | [], ds, _, _ => by simp [C.bulkRows]
  | r :: rows, [], h, _ => by simp at h
  | r :: rows, d :: ds, h, hr => by
    have h1 := hr 0 r d rfl rfl
    have h2 := bulkRows_le hB rows ds (by simpa using h) fun i r d hi hd => hr (i + 1) r d (by simpa using hi) (by simpa using hd)
    simp only [C.bulkRows, hB.cons]
    omega
theorem plain_at (hT : plainT P T = true) {t : TypeId} (ht : t ∈ T) : (match P.underlying t with
  | some .bool | some (.int _) | some .string => P.cellsOf t == 1
  | some (.slice e) => P.cellsOf t == 1 && T.contains e && decide (0 < P.cellsOf e)
  | some (.struct fs) => fs.toList.all (fun f => T.contains f.type) && fldsOk P 0 fs.toList (P.cellsOf t)
  | _ => false) = true := List.all_eq_true.1 hT t ht
theorem fieldsLen {n : Nat} (ih : ∀ t r, t ∈ T → Shape P n t r → r.length = P.cellsOf t) : ∀ (fs : List Field) (k N : Nat) (rs : List (List C)), (∀ f ∈ fs, f.type ∈ T) → fldsOk P k fs N = true →
    ShapeL (Shape P n) (fs.map (·.type)) rs → k + rs.flatten.length = N
  | [], k, N, [], _, h, _ => by simpa [fldsOk] using h
  | f :: fs, k, N, r :: rs, hf, h, hs => by
    simp only [fldsOk, Bool.and_eq_true] at h
    have h1 := ih _ _ (hf f (by simp)) hs.1
    have h2 := fieldsLen ih fs _ N rs (fun g hg => hf g (by simp [hg])) h.2 hs.2
    simp only [List.flatten_cons, List.length_append, h1]
    omega
  | [], _, _, _ :: _, _, _, h => h.elim
  | _ :: _, _, _, [], _, _, h => h.elim
theorem Shape.len (hT : plainT P T = true) : ∀ (n : Nat) (t : TypeId) (r : List C), t ∈ T → Shape P n t r → r.length = P.cellsOf t
  | 0, _, _, _, h => h.elim
  | n + 1, t, r, ht, h => by
    have hp := plain_at hT ht
    simp only [Shape] at h
    split at h
    · rename_i hu; rw [hu] at hp
      obtain ⟨b, rfl⟩ := h
      simp only [beq_iff_eq] at hp; simp [hp]
    · rename_i hu; rw [hu] at hp
      obtain ⟨m, rfl, _⟩ := h
      simp only [beq_iff_eq] at hp; simp [hp]
    · rename_i hu; rw [hu] at hp
      obtain ⟨m, rfl, _⟩ := h
      simp only [beq_iff_eq] at hp; simp [hp]
    · rename_i hu; rw [hu] at hp
      obtain ⟨m, rfl, _⟩ := h
      simp only [Bool.and_eq_true, beq_iff_eq] at hp; simp [hp]
    · rename_i fs hu; rw [hu] at hp
      obtain ⟨rs, rfl, hs⟩ := h
      simp only [Bool.and_eq_true, List.all_eq_true, List.contains_iff_mem] at hp
      have := fieldsLen (Shape.len hT n) fs.toList 0 (P.cellsOf t) rs (fun f hf => hp.1 f hf) hp.2 hs
      omega
    · exact h.elim
theorem choose_list {α β : Type} {R : Nat → β → Prop} : ∀ (n : Nat), (∀ i, i < n → ∃ b, R i b) → ∃ l : List β, l.length = n ∧ ∀ (i : Nat) b, l[i]? = some b → R i b
  | 0, _ => ⟨[], rfl, by simp⟩
  | n + 1, h => by
    obtain ⟨l, hl, hr⟩ := choose_list (α := α) n (fun i hi => h i (by omega))
    obtain ⟨b, hb⟩ := h n (by omega)
    refine ⟨l ++ [b], by simp [hl], fun i c hc => ?_⟩
    rcases Nat.lt_or_ge i l.length with hi | hi
    · rw [List.getElem?_append_left hi] at hc; exact hr i c hc
    · rw [List.getElem?_append_right hi] at hc
      have : i - l.length = 0 := by
        rcases Nat.eq_zero_or_pos (i - l.length) with h0 | h0
        · exact h0
        · obtain ⟨m, hm⟩ : ∃ m, i - l.length = m + 1 := ⟨i - l.length - 1, by omega⟩
          rw [hm] at hc; simp at hc
      rw [this] at hc
      simp at hc
      subst hc
      have : i = n := by omega
      subst this; exact hb
theorem cells_at {w : World} {a : Addr} {n : Nat} {cs : List Value} (h : w.cells? 0 a n = some cs) : cs.length = n ∧ ∀ j, j < n → w.cell? (a.add j) = cs[j]? := by
  unfold World.cells? at h
  rw [if_pos (Nat.zero_le _)] at h
  refine ⟨by simpa using mapM_some_length h, fun j hj => ?_⟩
  exact mapM_some_get h j j (by simp [hj])
theorem prow_append {w : World} {Z : Bk → Prop} {r1 r2 : List C} {c1 c2 : List Value} (h1 : PRow w Z r1 c1) (h2 : PRow w Z r2 c2) : PRow w Z (r1 ++ r2) (c1 ++ c2) := by
  obtain ⟨l1, g1⟩ := h1
  obtain ⟨l2, g2⟩ := h2
  refine ⟨by simp [l1, l2], fun j c v hc hv => ?_⟩
  rcases Nat.lt_or_ge j r1.length with hj | hj
  · rw [List.getElem?_append_left hj] at hc
    rw [List.getElem?_append_left (by omega)] at hv
    exact g1 j c v hc hv
  · rw [List.getElem?_append_right hj] at hc
    rw [List.getElem?_append_right (by omega)] at hv
    rw [l1] at hv
    exact g2 _ c v hc hv
theorem prow_one {w : World} {Z : Bk → Prop} {c : C} {v : Value} (h : PRep w Z c v) : PRow w Z [c] [v] := by
  refine ⟨rfl, fun j c' v' hc hv => ?_⟩
  cases j with
  | zero => simp at hc hv; subst hc; subst hv; exact h
  | succ j => simp at hc
theorem fields_row {w : World} {Z : Bk → Prop} {n : Nat} {cs : List Value} {N : Nat} (ih : ∀ t cs x, t ∈ T → DataW.trod enc P w 0 (fun _ => true) true n t cs = some x → ∃ r, Shape P n t r ∧ PRow w Z r cs ∧ ∀ (U : DataW H → Nat) (UA : List (DataW H) → Nat), Bulk U UA → C.bulkRow r ≤ U x.1) (hcs : cs.length = N) :
    ∀ (fs : List Field) (k : Nat) (xs : List (DataW H × List MemPlace)), (∀ f ∈ fs, f.type ∈ T) → fldsOk P k fs N = true → k ≤ N → xs.length = fs.length →
      (∀ (i : Nat) f, fs[i]? = some f → DataW.trod enc P w 0 (fun _ => true) true n f.type ((cs.drop f.offset).take (P.cellsOf f.type)) = xs[i]?) →
      ∃ rs, ShapeL (Shape P n) (fs.map (·.type)) rs ∧ PRow w Z rs.flatten (cs.drop k) ∧ ∀ (U : DataW H → Nat) (UA : List (DataW H) → Nat), Bulk U UA → C.bulkRow rs.flatten ≤ UA (xs.map (·.1))
  | [], k, xs, _, h, hk, _, _ => by
    simp only [fldsOk, beq_iff_eq] at h
    refine ⟨[], trivial, ?_, fun _ _ _ => by simp [C.bulkRow]⟩
    rw [List.drop_eq_nil_of_le (by omega)]
    exact ⟨rfl, by simp⟩
  | f :: fs, k, [], hf, h, hk, hl, hx => by simp at hl
  | f :: fs, k, x :: xs, hf, h, hk, hl, hx => by
    simp only [fldsOk, Bool.and_eq_true, beq_iff_eq] at h
    obtain ⟨ho, h⟩ := h
    have hle : ∀ (fs : List Field) (k : Nat), fldsOk P k fs N = true → k ≤ N := by
      intro fs
      induction fs with
      | nil => intro k h; simp [fldsOk] at h; omega
      | cons g gs ihg => intro k h; simp only [fldsOk, Bool.and_eq_true] at h; have := ihg _ h.2; omega
    have hk2 := hle fs _ h
    have hx1 := hx 0 f rfl
    obtain ⟨r, hs, hr, hb⟩ := ih _ _ _ (hf f (by simp)) hx1
    obtain ⟨rs, hss, hrs, hbs⟩ := fields_row ih hcs fs (k + P.cellsOf f.type) xs (fun g hg => hf g (by simp [hg])) h hk2 (by simpa using hl) (fun i g hg => hx (i + 1) g (by simpa using hg))
    refine ⟨r :: rs, ⟨hs, hss⟩, ?_, fun U UA hB => ?_⟩
    · have e : cs.drop k = (cs.drop f.offset).take (P.cellsOf f.type) ++ cs.drop (k + P.cellsOf f.type) := by
        rw [ho, ← List.drop_drop]
        exact (List.take_append_drop _ _).symm
      rw [e]
      exact prow_append hr hrs
    · have h1 := hb U UA hB
      have h2 := hbs U UA hB
      rw [List.flatten_cons, bulkRow_append, List.map_cons, hB.cons]
      omega
theorem trod_row (hT : plainT P T = true) {w : World} {Z : Bk → Prop} (hZ : ∀ b, b.2 < w.heap.size → Z b) : ∀ (n : Nat) (t : TypeId) (cs : List Value) (x : DataW H × List MemPlace), t ∈ T →
    DataW.trod enc P w 0 (fun _ => true) true n t cs = some x → ∃ r, Shape P n t r ∧ PRow w Z r cs ∧ ∀ (U : DataW H → Nat) (UA : List (DataW H) → Nat), Bulk U UA → C.bulkRow r ≤ U x.1
  | 0, _, _, _, _, h => by simp [DataW.trod] at h
  | n + 1, t, cs, x, ht, h => by
    have hp := plain_at hT ht
    simp only [Shape]
    split
    · rename_i hu
      obtain ⟨b, rfl, _⟩ := DataW.trod_bool hu h
      exact ⟨[.bool b], ⟨b, rfl⟩, prow_one (.bool b), fun U UA hB => hB.one _⟩
    · rename_i k hu
      obtain ⟨m, rfl, _, hw⟩ := DataW.trod_int hu h
      exact ⟨[.int k m], ⟨m, rfl, hw⟩, prow_one (.int k m), fun U UA hB => hB.one _⟩
    · rename_i hu
      obtain ⟨s, rfl, rfl, hs⟩ := DataW.trod_string hu h
      refine ⟨[.str s.data.toList], ⟨_, rfl, ?_⟩, prow_one ?_, fun U UA hB => hB.str _⟩
      · have h2 : s.size ≤ 9223372036854775807 := hs
        have e : s.data.toList.length = s.size := by rw [Array.length_toList]; rfl
        omega
      · have := PRep.str (w := w) (Z := Z) s.data.toList
        simpa using this
    · rename_i e hu
      rw [hu] at hp
      simp only [Bool.and_eq_true, decide_eq_true_eq, List.contains_iff_mem, beq_iff_eq] at hp
      obtain ⟨⟨_, he⟩, h0⟩ := hp
      rcases DataW.trod_slice hu h with ⟨rfl, _⟩ | ⟨a, len, cap, elems, rest, m, hm, rfl, rfl, _, hlc, hcap, hlen, hel, hre, _⟩
      · exact ⟨[.list 0 none []], ⟨[], by simp, by simp, by simp⟩, prow_one (.nil 0 none (by simp)), fun U UA hB => hB.one _⟩
      · obtain rfl : n = m := by omega
        have hmax : cap ≤ 9223372036854775807 := hcap
        by_cases hc0 : cap = 0
        · subst hc0
          obtain rfl : len = 0 := by omega
          exact ⟨[.list 0 none []], ⟨[], by simp, by simp, by simp⟩, prow_one (.emp 0 none a (by simp)), fun U UA hB => hB.one _⟩

        have read : ∀ i, i < cap → ∃ cs' y, w.cells? 0 (a.add (i * P.cellsOf e)) (P.cellsOf e) = some cs' ∧ DataW.trod enc P w 0 (fun _ => true) true n e cs' = some y := by
          intro i hi
          rcases Nat.lt_or_ge i len with hil | hil
          · have := hel i hil
            rw [List.getElem?_eq_getElem (by omega)] at this
            obtain ⟨cs', h1, h2⟩ := Option.bind_eq_some_iff.1 this
            exact ⟨cs', _, h1, h2⟩
          · obtain ⟨hr1, hr2⟩ := hre rfl
            have := hr2 (i - len) (by omega)
            rw [List.getElem?_eq_getElem (by omega)] at this
            obtain ⟨cs', h1, h2⟩ := Option.bind_eq_some_iff.1 this
            have hi2 : len + (i - len) = i := by omega
            rw [hi2] at h1
            exact ⟨cs', _, h1, h2⟩
        have hspot : ∃ b o, a = ⟨b, o, none⟩ := by
          obtain ⟨cs', y, h1, _⟩ := read 0 (by omega)
          obtain ⟨hl, hc⟩ := cells_at h1
          have := hc 0 h0
          rw [List.getElem?_eq_getElem (by omega)] at this
          have := World.cell?_spot this
          obtain ⟨b, o, sp⟩ := a
          simp [Addr.add] at this
          subst this
          exact ⟨b, o, rfl⟩
        obtain ⟨b, o, rfl⟩ := hspot
        obtain ⟨rows, hrl, hrows⟩ := choose_list (α := Unit) (R := fun i r => Shape P n e r ∧ (∀ (U : DataW H → Nat) (UA : List (DataW H) → Nat), Bulk U UA → ∀ y, elems[i]? = some y → C.bulkRow r ≤ U y.1) ∧ ∃ cs', (∀ j, j < P.cellsOf e → w.cell? ⟨b, o + (i * P.cellsOf e + j), none⟩ = cs'[j]?) ∧ PRow w Z r cs') len (by
          intro i hi
          obtain ⟨cs', y, h1, h2⟩ := read i (by omega)
          obtain ⟨r, hs, hr, hb⟩ := trod_row hT hZ n e cs' y he h2
          refine ⟨r, hs, fun U UA hB y' hy' => ?_, cs', fun j hj => ?_, hr⟩
          · have := hel i hi
            rw [h1, Option.bind_some, h2, hy'] at this
            cases this
            exact hb U UA hB
          have := (cells_at h1).2 j hj
          rw [addr_add, addr_add] at this
          rw [← this, Nat.add_assoc])
        have hb : b < w.heap.size := by
          obtain ⟨cs', y, h1, _⟩ := read 0 (by omega)
          obtain ⟨hl, hc⟩ := cells_at h1
          have := hc 0 h0
          rw [List.getElem?_eq_getElem (by omega)] at this
          have := World.block_lt_of_cell? w _ this
          simpa [Addr.add] using this
        have hall : ∀ r, r ∈ rows → r.length = P.cellsOf e := by
          intro r hr
          obtain ⟨i, hi⟩ := List.getElem?_of_mem hr
          exact Shape.len hT n e r he (hrows i r hi).1
        refine ⟨[.list (if rows.isEmpty then 0 else P.cellsOf e) none rows], ⟨rows, rfl, by omega, fun r hr => ?_⟩, prow_one ?_, fun U UA hB => ?_⟩
        · obtain ⟨i, hi⟩ := List.getElem?_of_mem hr
          exact (hrows i r hi).1
        · have hnil : rows ≠ [] → (if rows.isEmpty = true then 0 else P.cellsOf e) = P.cellsOf e := by intro hne; cases rows <;> simp_all
          have key := PRep.list (w := w) (Z := Z) b o cap (if rows.isEmpty = true then 0 else P.cellsOf e) none rows (fun i j => (w.cell? ⟨b, o + (i * P.cellsOf e + j), none⟩).getD undef) (by simp) (by omega) hcap
            (fun _ => hZ _ hb) (fun r hr => by rw [hnil (by rintro rfl; simp at hr)]; exact hall r hr) (fun i j r c hr hc => ?_) (fun i j r c hr hc => ?_)
          · rw [hrl] at key; exact key
          · obtain ⟨_, _, cs', h1, h2⟩ := hrows i r hr
            have hj : j < P.cellsOf e := by rw [← hall r (List.mem_of_getElem? hr)]; exact (List.getElem?_eq_some_iff.1 hc).1
            rw [hnil (by rintro rfl; simp at hr)]
            rw [h1 j hj, List.getElem?_eq_getElem (by rw [h2.1]; exact (List.getElem?_eq_some_iff.1 hc).1)]
            rfl
          · obtain ⟨_, _, cs', h1, h2⟩ := hrows i r hr
            have hj : j < P.cellsOf e := by rw [← hall r (List.mem_of_getElem? hr)]; exact (List.getElem?_eq_some_iff.1 hc).1
            have hj2 : j < cs'.length := by rw [h2.1]; exact (List.getElem?_eq_some_iff.1 hc).1
            have := h1 j hj
            rw [List.getElem?_eq_getElem hj2] at this
            simp only [this, Option.getD_some]
            exact h2.2 j c _ hc (List.getElem?_eq_getElem hj2)
        · have h1 := bulkRows_le hB rows (elems.map (·.1)) (by simp [hrl, hlen]) fun i r d hr hd => by
            simp only [List.getElem?_map, Option.map_eq_some_iff] at hd
            obtain ⟨y, hy, rfl⟩ := hd
            exact (hrows i r hr).2.1 U UA hB y hy
          have h2 := hB.slice (elems.map (·.1)) (rest.map (·.1))
          simp only [C.bulkRow, C.bulk]
          omega
    · rename_i fs hu
      rw [hu] at hp
      simp only [Bool.and_eq_true, List.all_eq_true, List.contains_iff_mem] at hp
      obtain ⟨xs, m, hm, rfl, hcl, hxl, hx⟩ := DataW.trod_struct hu h
      obtain rfl : n = m := by omega
      obtain ⟨rs, h1, h2, h3⟩ := fields_row (enc := enc) (fun t cs x => trod_row hT hZ n t cs x) hcl fs.toList 0 xs hp.1 hp.2 (Nat.zero_le _) (by simpa using hxl) (fun i f hf => hx i f (by simpa using hf))
      exact ⟨_, ⟨rs, rfl, h1⟩, by simpa using h2, fun U UA hB => Nat.le_trans (h3 U UA hB) (hB.agg _)⟩
    · rename_i h1 h2 h3 h4 h5
      exfalso
      revert hp
      split <;> simp_all
def argV (P : Program) (t : TypeId) (r : List C) : V :=
  match P.underlying t with
  | some (.struct _) => .agg r
  | _ => match r with | [c] => .k (.c c) | _ => .any
def ArgsOf (P : Program) : List TypeId → List V → Prop
  | [], [] => True
  | t :: ts, v :: vs => (∃ n r, Shape P n t r ∧ v = argV P t r) ∧ ArgsOf P ts vs
  | _, _ => False
theorem trodAll_args (hT : plainT P T = true) {w : World} {Z : Bk → Prop} (hZ : ∀ b, b.2 < w.heap.size → Z b) {base : Nat} : ∀ (ts : List TypeId) (vs : List Value) (ds : List (DataW H)) (ps : List MemPlace), (∀ t ∈ ts, t ∈ T) →
    (∀ (j : Nat) t v, ts[j]? = some t → vs[j]? = some v → Value.okWide P w .any base t v) →
    DataW.TrodAll enc P w 0 (fun _ => true) true ts vs ds ps → ∃ xs, ArgsOf P ts xs ∧ ARep w Z xs vs ∧ ∀ (U : DataW H → Nat) (UA : List (DataW H) → Nat), Bulk U UA → bulkVs xs ≤ UA ds
  | [], [], [], _, _, _, _ => ⟨[], trivial, ⟨rfl, by simp⟩, fun _ _ _ => by simp [bulkVs]⟩
  | t :: ts, v :: vs, d :: ds, ps, hm, hok, ⟨p, q, ⟨n, h1⟩, h2, _⟩ => by
    obtain ⟨r, hs, hr, hb⟩ := trod_row hT hZ n t _ _ (hm t (by simp)) h1
    obtain ⟨xs, hx, ha, hbs⟩ := trodAll_args hT hZ ts vs ds q (fun t ht => hm t (by simp [ht])) (fun j t v h h' => hok (j + 1) t v (by simpa using h) (by simpa using h')) h2
    have hv := hok 0 t v rfl rfl
    have key : ∃ x, x = argV P t r ∧ x.isPure = true ∧ VRep w Z (fun _ => none) (fun _ => none) x v ∧ x.bulk ≤ C.bulkRow r := by
      have hp := plain_at hT (hm t (by simp))
      unfold Value.okWide at hv
      cases n with
      | zero => exact hs.elim
      | succ n =>
      simp only [Shape] at hs
      have one : ∀ c, r = [c] → (∀ cs, v ≠ .agg cs) → (∀ cs, v ≠ .tuple cs) → V.isPure (.k (.c c)) = true ∧ VRep w Z (fun _ => none) (fun _ => none) (.k (.c c)) v ∧ V.bulk (.k (.c c)) ≤ C.bulkRow r := by
        rintro c rfl hna hnt
        have hc : v.cells = #[v] := by cases v <;> simp [Value.cells] <;> (first | exact absurd rfl (hna _) | exact absurd rfl (hnt _))
        rw [hc] at hr
        have := hr.2 0 c v rfl rfl
        exact ⟨rfl, ⟨this.oneCell, this⟩, by simp [V.bulk, C.bulkRow]⟩
      have nagg : ∀ {d : TypeDesc}, P.underlying t = some d → (∀ fs, d ≠ .struct fs) → (∀ n e, d ≠ .array n e) → (∀ m, d ≠ .interface m) → (∀ k e, d ≠ .map k e) → Cell.okWide P w .any base t v → True := fun _ _ _ _ _ _ => trivial
      split at hs
      · rename_i hu
        unfold argV; rw [hu] at hv ⊢
        obtain ⟨b, rfl⟩ := hs
        simp only [Cell.okWide, Cell.ok, hu] at hv
        refine ⟨_, rfl, one _ rfl ?_ ?_⟩ <;> rintro cs rfl <;> simp at hv
      · rename_i hu
        unfold argV; rw [hu] at hv ⊢
        obtain ⟨b, rfl, _⟩ := hs
        simp only [Cell.okWide, Cell.ok, hu] at hv
        refine ⟨_, rfl, one _ rfl ?_ ?_⟩ <;> rintro cs rfl <;> simp at hv
      · rename_i hu
        unfold argV; rw [hu] at hv ⊢
        obtain ⟨b, rfl, _⟩ := hs
        simp only [Cell.okWide, Cell.ok, hu] at hv
        refine ⟨_, rfl, one _ rfl ?_ ?_⟩ <;> rintro cs rfl <;> simp at hv
      · rename_i hu
        unfold argV; rw [hu] at hv ⊢
        obtain ⟨b, rfl, _⟩ := hs
        simp only [Cell.okWide, Cell.ok, hu] at hv
        refine ⟨_, rfl, one _ rfl ?_ ?_⟩ <;> rintro cs rfl <;> simp at hv
      · rename_i fs hu
        unfold argV; rw [hu] at hv ⊢
        obtain ⟨cs, rfl, _⟩ := hv
        exact ⟨_, rfl, rfl, ⟨cs, rfl, by simpa [Value.cells] using hr⟩, Nat.le_refl _⟩
      · exact hs.elim
    obtain ⟨x, hx1, hx2, hx3, hx4⟩ := key
    refine ⟨x :: xs, ⟨⟨n, r, hs, hx1⟩, hx⟩, ⟨by simp [ha.1], fun j y u hy hu => ?_⟩, fun U UA hB => by
      have h1 : C.bulkRow r ≤ U d := hb U UA hB
      have h2 := hbs U UA hB
      simp only [bulkVs, hB.cons]
      omega⟩
    cases j with
    | zero => simp at hy hu; subst hy; subst hu; exact ⟨hx2, hx3⟩
    | succ j => exact ha.2 j y u (by simpa using hy) (by simpa using hu)
  | [], _ :: _, _, _, _, _, h => by simp [DataW.TrodAll] at h
  | [], [], _ :: _, _, _, _, h => by simp [DataW.TrodAll] at h
  | _ :: _, [], _, _, _, _, h => by simp [DataW.TrodAll] at h
  | _ :: _, _ :: _, [], _, _, _, h => by simp [DataW.TrodAll] at h
theorem kept_keptBut {w w' : World} (h : Kept w w') (may : MemPlace → Prop) : w.keptBut w' may := by
  refine ⟨h.os, h.output, fun i hi => ?_⟩
  rw [h.block i hi]
  have := (World.keptBut_refl w may).2.2 i hi
  exact this
theorem trodAll_carry {w w' : World} : ∀ {ts : List TypeId} {vs : List Value} {ds : List (DataW H)} {ps : List MemPlace}, DataW.TrodAll enc P w 0 (fun _ => true) true ts vs ds ps → (∀ p ∈ ps, w.sameAt w' p) → DataW.TrodAll enc P w' 0 (fun _ => true) true ts vs ds ps
  | [], [], [], _, h, _ => h
  | _ :: _, _ :: _, _ :: _, _, ⟨p, q, ⟨n, h1⟩, h2, e⟩, hs => by
    subst e
    exact ⟨p, q, ⟨n, DataW.trod_carry _ _ _ _ h1 (fun x hx => hs x (List.mem_append_left _ hx))⟩, trodAll_carry h2 (fun x hx => hs x (List.mem_append_right _ hx)), rfl⟩
  | [], _ :: _, _, _, h, _ => by simp [DataW.TrodAll] at h
  | [], [], _ :: _, _, h, _ => by simp [DataW.TrodAll] at h
  | _ :: _, [], _, _, h, _ => by simp [DataW.TrodAll] at h
  | _ :: _, _ :: _, [], _, h, _ => by simp [DataW.TrodAll] at h
theorem trodAll_len {w : World} : ∀ {ts : List TypeId} {vs : List Value} {ds : List (DataW H)} {ps : List MemPlace}, DataW.TrodAll enc P w 0 (fun _ => true) true ts vs ds ps → ds.length = ts.length
  | [], [], [], _, _ => rfl
  | _ :: _, _ :: _, _ :: _, _, ⟨_, _, _, h2, _⟩ => by simp [trodAll_len h2]
  | [], _ :: _, _, _, h => by simp [DataW.TrodAll] at h
  | [], [], _ :: _, _, h => by simp [DataW.TrodAll] at h
  | _ :: _, [], _, _, h => by simp [DataW.TrodAll] at h
  | _ :: _, _ :: _, [], _, h => by simp [DataW.TrodAll] at h
theorem law_contractU {C : Checked} {f : FuncId} {fn : Func} {s : ChangeSpec} {apart fresh handsOn again : Bool} {tb : TypeId}
    (hT : plainT C.prog T = true) (hTl : ∀ t ∈ T, t < C.prog.types.size) (hpar : ∀ t ∈ fn.params.toList, t ∈ T) (kids : Kids C.prog (· < C.prog.types.size))
    (full : ∀ t e, t < C.prog.types.size → C.prog.underlying t = some (.slice e) → 0 < C.prog.cellsOf e)
    (hvars : s.vars = []) (hs : ∀ ds : List (DataW H), ds.length = fn.params.size → s.fn H ds = { results := [.lit (.bool true)], args := ds })
    (hres : fn.resultTypes.toList = [tb]) (htb : C.prog.underlying tb = some .bool)
    (W : World) (base : Nat) (args : Array Value) (ds gs : List (DataW H)) (before : List MemPlace)
    {N : Nat} (spec : ∀ xs, ArgsOf C.prog fn.params.toList xs → ((∃ (U : DataW H → Nat) (UA : List (DataW H) → Nat), Bulk U UA ∧ UA (ds ++ gs) ≤ N) → bulkVs xs ≤ N) → Spec C.prog f xs (fun r => r = .bool true))
    (hval : ∀ (j : Nat) t v, fn.params[j]? = some t → args[j]? = some v → Value.okWide C.prog W .any base t v)
    (hW : DataW.Whole enc C.prog fn.params.toList s.vars apart W args.toList ds gs before) (hG : GlobB (Go.Abs.base W)) :
    Calls C.prog f args W fun e W' => ∃ v, e = .returned v ∧ s.post enc C.prog fn apart fresh handsOn again W args v W' := by
  have hW' := hW
  obtain ⟨p, q, hA, hV, rfl, hz, hn⟩ := hW
  have hV0 := hV
  rw [hvars] at hV
  obtain ⟨rfl, rfl⟩ : gs = [] ∧ q = [] := by
    cases gs with
    | nil => exact ⟨rfl, hV⟩
    | cons => exact hV.elim
  simp only [List.append_nil] at hW' hz hn
  obtain ⟨xs, hx, har, hbk⟩ := trodAll_args (Z := fun b => b.2 < W.heap.size) hT (fun b h => h) fn.params.toList args.toList ds p hpar (fun j t v h h' => hval j t v (by simpa using h) (by simpa using h')) hA
  refine ((spec xs hx (fun ⟨U, UA, hB, hle⟩ => Nat.le_trans (hbk U UA hB) (by simpa using hle))).2 W _ args hG (fun b h => h) har).mono ?_
  rintro e W' ⟨v, r, rfl, rfl, _, hrep⟩
  obtain ⟨κ, hi⟩ := hrep 0
  have hkept : Kept W W' := hi.kept
  have hv : v = .bool true := by
    have := hi.tmps 0
    simp only [if_pos, V.reg] at this
    have h2 : PRep W' (Zof (Go.Abs.base W) _ κ (tabOf 0 []) W') (.bool true) v := this.2
    cases h2; rfl
  subst hv
  refine ⟨_, rfl, ?_⟩
  have hsame : ∀ p' ∈ p, W.sameAt W' p' := by
    intro p' hp'
    have hlt := hA.lt p' hp'
    cases p' with
    | cell b off => exact World.cell?_of_block (hkept.block b hlt)
    | map b => exact hkept.block b hlt
  have again' : ∀ sp : Nat → Bool, (∀ p' ∈ p, sp p'.block = true) → DataW.TrodAll enc C.prog W' 0 sp true fn.params.toList args.toList ds p := by
    intro sp hsp
    exact (trodAll_carry hA hsame).respare kids full (fun t ht => hTl t (hpar t ht)) hsp
  have hlen : ds.length = fn.params.size := by
    have := trodAll_len hA
    simpa using this
  have hsf := hs (ds ++ []) (by simpa using hlen)
  have h1 : fn.resultTypes.size = 1 := by rw [← Array.length_toList, hres]; rfl
  have hold : ∀ p' ∈ p, (fun b => decide (b < W.heap.size)) p'.block = true := fun p' hp' => by simpa using hA.lt p' hp'
  have hrt : ∀ (b : Nat) (sp : Nat → Bool) (hd : Bool), DataW.TrodAll enc C.prog W' b sp hd fn.resultTypes.toList ((Value.bool true).resultList fn.resultTypes.size) (s.fn H (ds ++ [])).results [] := by
    intro b sp hd
    rw [hsf, hres, h1]
    exact trodAll_mk1 (shut_bool htb true)
  have hvt : ∀ sp : Nat → Bool, DataW.TrodVars enc C.prog W' sp s.vars (s.fn H (ds ++ [])).vars [] := by
    intro sp
    rw [hvars, hsf]; rfl
  have hat : ∀ sp : Nat → Bool, (∀ p' ∈ p, sp p'.block = true) → DataW.TrodAll enc C.prog W' 0 sp true fn.params.toList args.toList (s.fn H (ds ++ [])).args p := by
    intro sp hsp
    rw [hsf]
    simpa using again' sp hsp
  refine ⟨ds, [], p, [], p, [], hW', hrt _ _ _, hat _ hold, hvt _, kept_keptBut hkept _, fun _ => ⟨?_, .lit (.bool true) :: ds, [], p, ?_, fun p' hp' _ => hp'⟩⟩
  · intro j t r hj hv
    rw [h1] at hv
    have hj' : fn.resultTypes.toList[j]? = some t := by simpa using hj
    rw [hres] at hj'
    cases j with
    | zero =>
      simp [Value.resultList] at hj' hv
      subst hj'; subst hv
      exact okWide_bool_mk htb true
    | succ j => simp at hj'
  · refine ⟨p, [], ?_, by rw [hvars]; rfl, by simp, fun b off hp' => ?_, fun ha => by simpa using hn ha⟩
    · rw [hres, h1]
      refine ⟨[], p, shut_bool htb true, ?_, by simp⟩
      have := again' (fun _ => true) (fun _ _ => rfl)
      simpa using this
    · have hlt := hA.lt _ hp'
      have := hz b off hp'
      unfold World.frozen? at this ⊢
      have e := hkept.block b hlt
      simp only [] at this ⊢
      rw [e]; exact this
end
end Go.Abs


set_option maxRecDepth 100000
namespace Go.Abs
open Go.Proofs
theorem uu {a b : AQ} (h : a = b) (P ts os Q) : awl P a Q ts os = awl P b Q ts os := h ▸ rfl
def f9r1 : List AI := [⟨none, (.mov 3 (.t 0))⟩, ⟨none, (.call (some 4) 27 [(.t 3)])⟩, ⟨none, (.bin 5 .add (.t 4) (.v (.k (.c (.str [59])))))⟩, ⟨none, (.mov 2 (.t 5))⟩]
def f9b2 : AQ := (.seq (.region f9r1) .ret)
def f9r3 : List AI := [⟨none, (.mov 2 (.v (.k (.c (.str [])))))⟩]
def f9b4 : AQ := (.seq (.region f9r3) f9b2)
def f9 : AQ := f9b4
theorem hf9 : cFunc Tryd.prog 9 = some ⟨6, f9.erase, [(RX.t 2)]⟩ := by kernel_rfl
theorem okf9 : f9.ok = true := by kernel_rfl
def f11r1 : List AI := [⟨none, (.mov 3 (.t 0))⟩, ⟨none, (.lenS 4 (.t 3))⟩, ⟨none, (.call (some 5) 9 [(.t 4)])⟩, ⟨none, (.mov 6 (.t 0))⟩, ⟨none, (.bin 7 .add (.t 5) (.t 6))⟩, ⟨none, (.mov 2 (.t 7))⟩]
def f11b2 : AQ := (.seq (.region f11r1) .ret)
def f11r3 : List AI := [⟨none, (.mov 2 (.v (.k (.c (.str [])))))⟩]
def f11b4 : AQ := (.seq (.region f11r3) f11b2)
def f11 : AQ := f11b4
theorem hf11 : cFunc Tryd.prog 11 = some ⟨8, f11.erase, [(RX.t 2)]⟩ := by kernel_rfl
theorem okf11 : f11.ok = true := by kernel_rfl
def f13r1 : List AI := [⟨none, (.mov 3 (.t 0))⟩, ⟨none, (.call (some 4) 28 [(.t 3), (.v (.k (.c (.fn 9 []))))])⟩, ⟨none, (.mov 2 (.t 4))⟩]
def f13b2 : AQ := (.seq (.region f13r1) .ret)
def f13r3 : List AI := [⟨none, (.mov 2 (.v (.k (.c (.str [])))))⟩]
def f13b4 : AQ := (.seq (.region f13r3) f13b2)
def f13 : AQ := f13b4
theorem hf13 : cFunc Tryd.prog 13 = some ⟨5, f13.erase, [(RX.t 2)]⟩ := by kernel_rfl
theorem okf13 : f13.ok = true := by kernel_rfl
def f15r1 : List AI := [⟨none, (.mov 3 (.t 0))⟩, ⟨none, (.call (some 4) 29 [(.t 3), (.v (.k (.c (.fn 11 []))))])⟩, ⟨none, (.mov 2 (.t 4))⟩]
def f15b2 : AQ := (.seq (.region f15r1) .ret)
def f15r3 : List AI := [⟨none, (.mov 2 (.v (.k (.c (.str [])))))⟩]
def f15b4 : AQ := (.seq (.region f15r3) f15b2)
def f15 : AQ := f15b4
theorem hf15 : cFunc Tryd.prog 15 = some ⟨5, f15.erase, [(RX.t 2)]⟩ := by kernel_rfl
theorem okf15 : f15.ok = true := by kernel_rfl
def f19r1 : List AI := [⟨none, (.mov 24 (.t 3))⟩, ⟨none, (.mov 25 (.t 5))⟩, ⟨none, (.slstr 26 (.t 24) none (some (.t 25)))⟩, ⟨none, (.mov 27 (.t 3))⟩, ⟨none, (.mov 28 (.t 5))⟩, ⟨none, (.slstr 29 (.t 27) (some (.t 28)) none)⟩, ⟨none, (.mov 2 (.t 26))⟩, ⟨none, (.mov 3 (.t 29))⟩, ⟨none, (.mov 4 (.v (.k (.c (.bool true)))))⟩]
def f19b2 : AQ := (.seq (.draw f19r1 [[], [], [0, 1], [], [], [3, 4], [2, 0, 1, 2], [5, 6, 0, 1, 2, 3, 4, 5, 6], [7, 0, 1, 2, 3, 4, 5, 6, 7]]) .ret)
def f19r3 : List AI := [⟨none, (.mov 2 (.v (.k (.c (.str [])))))⟩, ⟨none, (.mov 3 (.v (.k (.c (.str [])))))⟩, ⟨none, (.mov 4 (.v (.k (.c (.bool false)))))⟩]
def f19b4 : AQ := (.seq (.region f19r3) .ret)
def f19b5 : AQ := (.cond (.t 23) f19b4 .skip)
def f19r6 : List AI := [⟨none, (.mov 12 (.t 4))⟩, ⟨none, (.un 13 .not (.t 12))⟩, ⟨none, (.mov 14 (.t 13))⟩, ⟨(some (14, false)), (.mov 15 (.t 5))⟩, ⟨(some (14, false)), (.bin 16 .lss (.t 15) (.v (.k (.c (.int .i64 0)))))⟩, ⟨none, (.pick 17 (.t 14) (.v (.k (.c (.bool true)))) (.t 16))⟩, ⟨none, (.mov 18 (.t 17))⟩, ⟨(some (18, false)), (.mov 19 (.t 5))⟩, ⟨(some (18, false)), (.mov 20 (.t 3))⟩, ⟨(some (18, false)), (.lenS 21 (.t 20))⟩, ⟨(some (18, false)), (.bin 22 .gtr (.t 19) (.t 21))⟩, ⟨none, (.pick 23 (.t 18) (.v (.k (.c (.bool true)))) (.t 22))⟩]
def f19b7 : AQ := (.seq (.region f19r6) f19b5)
def f19b8 : AQ := (.seq f19b7 f19b2)
def f19r9 : List AI := [⟨none, (.mov 7 (.t 0))⟩, ⟨none, (.call (some 8) 17 [(.t 7)])⟩, ⟨none, (.mov 6 (.t 8))⟩, ⟨none, (.extr 9 (.t 6) 0)⟩, ⟨none, (.extr 10 (.t 6) 1)⟩, ⟨none, (.extr 11 (.t 6) 2)⟩, ⟨none, (.mov 5 (.t 9))⟩, ⟨none, (.mov 3 (.t 10))⟩, ⟨none, (.mov 4 (.t 11))⟩]
def f19b10 : AQ := (.seq (.region f19r9) f19b8)
def f19r11 : List AI := [⟨none, (.mov 2 (.v (.k (.c (.str [])))))⟩, ⟨none, (.mov 3 (.v (.k (.c (.str [])))))⟩, ⟨none, (.mov 4 (.v (.k (.c (.bool false)))))⟩]
def f19b12 : AQ := (.seq (.region f19r11) f19b10)
def f19 : AQ := f19b12
theorem hf19 : cFunc Tryd.prog 19 = some ⟨30, f19.erase, [(RX.t 2), (RX.t 3), (RX.t 4)]⟩ := by kernel_rfl
theorem okf19 : f19.ok = true := by kernel_rfl
def f21r1 : List AI := [⟨none, (.mov 5 (.t 0))⟩, ⟨none, (.call (some 6) 33 [(.t 5), (.v (.k (.c (.fn 17 []))))])⟩, ⟨none, (.extr 7 (.t 6) 0)⟩, ⟨none, (.extr 8 (.t 6) 1)⟩, ⟨none, (.extr 9 (.t 6) 2)⟩, ⟨none, (.mov 2 (.t 7))⟩, ⟨none, (.mov 3 (.t 8))⟩, ⟨none, (.mov 4 (.t 9))⟩]
def f21b2 : AQ := (.seq (.region f21r1) .ret)
def f21r3 : List AI := [⟨none, (.nilL 2 3 1)⟩, ⟨none, (.mov 3 (.v (.k (.c (.str [])))))⟩, ⟨none, (.mov 4 (.v (.k (.c (.bool false)))))⟩]
def f21b4 : AQ := (.seq (.region f21r3) f21b2)
def f21 : AQ := f21b4
theorem hf21 : cFunc Tryd.prog 21 = some ⟨10, f21.erase, [(RX.t 2), (RX.t 3), (RX.t 4)]⟩ := by kernel_rfl
theorem okf21 : f21.ok = true := by kernel_rfl
def f23r1 : List AI := [⟨none, (.mov 4 (.v (.k (.c (.bool true)))))⟩]
def f23b2 : AQ := (.seq (.region f23r1) .ret)
def f23r3 : List AI := [⟨none, (.mov 15 (.t 5))⟩, ⟨none, (.bin 16 .add (.t 15) (.v (.k (.c (.int .i64 1)))))⟩, ⟨none, (.mov 5 (.t 16))⟩]
def f23r4 : List AI := [⟨none, (.mov 4 (.v (.k (.c (.bool false)))))⟩]
def f23b5 : AQ := (.seq (.region f23r4) .ret)
def f23b6 : AQ := (.cond (.t 25) f23b5 .skip)
def f23r7 : List AI := [⟨none, (.mov 17 (.t 0))⟩, ⟨none, (.mov 18 (.t 5))⟩, ⟨none, (.iaddr 19 1 (.t 17) (.t 18))⟩, ⟨none, (.load 20 1 false (.t 19))⟩, ⟨none, (.mov 21 (.t 1))⟩, ⟨none, (.mov 22 (.t 5))⟩, ⟨none, (.iaddr 23 1 (.t 21) (.t 22))⟩, ⟨none, (.load 24 1 false (.t 23))⟩, ⟨none, (.bin 25 .neq (.t 20) (.t 24))⟩]
def f23b8 : AQ := (.seq (.draw f23r7 [[], [], [0, 1], [2], [], [], [4, 5], [6], [3, 7]]) f23b6)
def f23b9 : AQ := (.block 1 f23b8)
def f23b10 : AQ := (.seq f23b9 (.region f23r3))
def f23b11 : AQ := (.cond (.t 14) .skip (.exit 0))
def f23r12 : List AI := [⟨none, (.mov 11 (.t 5))⟩, ⟨none, (.mov 12 (.t 0))⟩, ⟨none, (.len 13 (.t 12))⟩, ⟨none, (.bin 14 .lss (.t 11) (.t 13))⟩]
def f23b13 : AQ := (.seq (.region f23r12) f23b11)
def f23b14 : AQ := (.seq f23b13 f23b10)
def f23l15 : AQ := .loop [0, 1, 5] [] f23b14
theorem uf23l15 (P ts os Q) : awl P f23l15 Q ts os = awl P (.loop [0, 1, 5] [] f23b14) Q ts os := id rfl
def f23b16 : AQ := (.block 0 f23l15)
def f23r17 : List AI := [⟨none, (.mov 5 (.v (.k (.c (.int .i64 0)))))⟩]
def f23b18 : AQ := (.seq (.region f23r17) f23b16)
def f23b19 : AQ := (.seq f23b18 f23b2)
def f23r20 : List AI := [⟨none, (.mov 4 (.v (.k (.c (.bool false)))))⟩]
def f23b21 : AQ := (.seq (.region f23r20) .ret)
def f23b22 : AQ := (.cond (.t 10) f23b21 .skip)
def f23r23 : List AI := [⟨none, (.mov 6 (.t 0))⟩, ⟨none, (.len 7 (.t 6))⟩, ⟨none, (.mov 8 (.t 1))⟩, ⟨none, (.len 9 (.t 8))⟩, ⟨none, (.bin 10 .neq (.t 7) (.t 9))⟩]
def f23b24 : AQ := (.seq (.region f23r23) f23b22)
def f23b25 : AQ := (.seq f23b24 f23b19)
def f23r26 : List AI := [⟨none, (.mov 4 (.v (.k (.c (.bool false)))))⟩]
def f23b27 : AQ := (.seq (.region f23r26) f23b25)
def f23 : AQ := f23b27
theorem hf23 : cFunc Tryd.prog 23 = some ⟨26, f23.erase, [(RX.t 4)]⟩ := by kernel_rfl
theorem okf23 : f23.ok = true := by kernel_rfl
def f24r1 : List AI := [⟨none, (.mov 5 (.t 0))⟩, ⟨none, (.call (some 6) 34 [(.t 5), (.v (.k (.c (.fn 19 []))))])⟩, ⟨none, (.extr 7 (.t 6) 0)⟩, ⟨none, (.extr 8 (.t 6) 1)⟩, ⟨none, (.extr 9 (.t 6) 2)⟩, ⟨none, (.mov 2 (.t 7))⟩, ⟨none, (.mov 3 (.t 8))⟩, ⟨none, (.mov 4 (.t 9))⟩]
def f24b2 : AQ := (.seq (.region f24r1) .ret)
def f24r3 : List AI := [⟨none, (.nilL 2 9 1)⟩, ⟨none, (.mov 3 (.v (.k (.c (.str [])))))⟩, ⟨none, (.mov 4 (.v (.k (.c (.bool false)))))⟩]
def f24b4 : AQ := (.seq (.region f24r3) f24b2)
def f24 : AQ := f24b4
theorem hf24 : cFunc Tryd.prog 24 = some ⟨10, f24.erase, [(RX.t 2), (RX.t 3), (RX.t 4)]⟩ := by kernel_rfl
theorem okf24 : f24.ok = true := by kernel_rfl
def f26r1 : List AI := [⟨none, (.mov 4 (.v (.k (.c (.bool true)))))⟩]
def f26b2 : AQ := (.seq (.region f26r1) .ret)
def f26r3 : List AI := [⟨none, (.mov 15 (.t 5))⟩, ⟨none, (.bin 16 .add (.t 15) (.v (.k (.c (.int .i64 1)))))⟩, ⟨none, (.mov 5 (.t 16))⟩]
def f26r4 : List AI := [⟨none, (.mov 4 (.v (.k (.c (.bool false)))))⟩]
def f26b5 : AQ := (.seq (.region f26r4) .ret)
def f26b6 : AQ := (.cond (.t 25) f26b5 .skip)
def f26r7 : List AI := [⟨none, (.mov 17 (.t 0))⟩, ⟨none, (.mov 18 (.t 5))⟩, ⟨none, (.iaddr 19 1 (.t 17) (.t 18))⟩, ⟨none, (.load 20 1 false (.t 19))⟩, ⟨none, (.mov 21 (.t 1))⟩, ⟨none, (.mov 22 (.t 5))⟩, ⟨none, (.iaddr 23 1 (.t 21) (.t 22))⟩, ⟨none, (.load 24 1 false (.t 23))⟩, ⟨none, (.bin 25 .neq (.t 20) (.t 24))⟩]
def f26b8 : AQ := (.seq (.draw f26r7 [[], [], [0, 1], [2], [], [], [4, 5], [6], [3, 7]]) f26b6)
def f26b9 : AQ := (.block 1 f26b8)
def f26b10 : AQ := (.seq f26b9 (.region f26r3))
def f26b11 : AQ := (.cond (.t 14) .skip (.exit 0))
def f26r12 : List AI := [⟨none, (.mov 11 (.t 5))⟩, ⟨none, (.mov 12 (.t 0))⟩, ⟨none, (.len 13 (.t 12))⟩, ⟨none, (.bin 14 .lss (.t 11) (.t 13))⟩]
def f26b13 : AQ := (.seq (.region f26r12) f26b11)
def f26b14 : AQ := (.seq f26b13 f26b10)
def f26l15 : AQ := .loop [0, 1, 5] [] f26b14
theorem uf26l15 (P ts os Q) : awl P f26l15 Q ts os = awl P (.loop [0, 1, 5] [] f26b14) Q ts os := id rfl
def f26b16 : AQ := (.block 0 f26l15)
def f26r17 : List AI := [⟨none, (.mov 5 (.v (.k (.c (.int .i64 0)))))⟩]
def f26b18 : AQ := (.seq (.region f26r17) f26b16)
def f26b19 : AQ := (.seq f26b18 f26b2)
def f26r20 : List AI := [⟨none, (.mov 4 (.v (.k (.c (.bool false)))))⟩]
def f26b21 : AQ := (.seq (.region f26r20) .ret)
def f26b22 : AQ := (.cond (.t 10) f26b21 .skip)
def f26r23 : List AI := [⟨none, (.mov 6 (.t 0))⟩, ⟨none, (.len 7 (.t 6))⟩, ⟨none, (.mov 8 (.t 1))⟩, ⟨none, (.len 9 (.t 8))⟩, ⟨none, (.bin 10 .neq (.t 7) (.t 9))⟩]
def f26b24 : AQ := (.seq (.region f26r23) f26b22)
def f26b25 : AQ := (.seq f26b24 f26b19)
def f26r26 : List AI := [⟨none, (.mov 4 (.v (.k (.c (.bool false)))))⟩]
def f26b27 : AQ := (.seq (.region f26r26) f26b25)
def f26 : AQ := f26b27
theorem hf26 : cFunc Tryd.prog 26 = some ⟨26, f26.erase, [(RX.t 4)]⟩ := by kernel_rfl
theorem okf26 : f26.ok = true := by kernel_rfl
def f33r1 : List AI := [⟨none, (.mov 53 (.t 10))⟩, ⟨none, (.mov 54 (.t 8))⟩, ⟨none, (.mov 4 (.t 53))⟩, ⟨none, (.mov 5 (.t 54))⟩, ⟨none, (.mov 6 (.v (.k (.c (.bool true)))))⟩]
def f33b2 : AQ := (.seq (.region f33r1) .ret)
def f33r3 : List AI := [⟨none, (.bin 52 .add (.t 36) (.v (.k (.c (.int .i64 1)))))⟩, ⟨none, (.mov 36 (.t 52))⟩]
def f33r4 : List AI := [⟨none, (.mov 47 (.t 10))⟩, ⟨none, (.mov 48 (.t 11))⟩, ⟨none, (.bslice 49 3 1 [(.int .i64 0)] 1 [(0, (.t 48))])⟩, ⟨none, (.append 50 3 1 8 (.t 47) (.t 49))⟩, ⟨none, (.mov 51 (.t 12))⟩, ⟨none, (.mov 10 (.t 50))⟩, ⟨none, (.mov 8 (.t 51))⟩]
def f33r5 : List AI := [⟨none, (.nilL 4 3 1)⟩, ⟨none, (.mov 5 (.v (.k (.c (.str [])))))⟩, ⟨none, (.mov 6 (.v (.k (.c (.bool false)))))⟩]
def f33b6 : AQ := (.seq (.region f33r5) .ret)
def f33b7 : AQ := (.cond (.t 46) f33b6 .skip)
def f33r8 : List AI := [⟨none, (.mov 45 (.t 13))⟩, ⟨none, (.un 46 .not (.t 45))⟩]
def f33b9 : AQ := (.seq (.region f33r8) f33b7)
def f33b10 : AQ := (.seq f33b9 (.region f33r4))
def f33r11 : List AI := [⟨none, (.mov 39 (.t 1))⟩, ⟨none, (.mov 40 (.t 8))⟩, ⟨none, (.callv (some 41) (.t 39) [(.t 40)])⟩, ⟨none, (.mov 38 (.t 41))⟩, ⟨none, (.extr 42 (.t 38) 0)⟩, ⟨none, (.extr 43 (.t 38) 1)⟩, ⟨none, (.extr 44 (.t 38) 2)⟩, ⟨none, (.mov 11 (.t 42))⟩, ⟨none, (.mov 12 (.t 43))⟩, ⟨none, (.mov 13 (.t 44))⟩]
def f33b12 : AQ := (.seq (.region f33r11) f33b10)
def f33b13 : AQ := (.block 1 f33b12)
def f33b14 : AQ := (.seq f33b13 (.region f33r3))
def f33b15 : AQ := (.cond (.t 37) .skip (.exit 0))
def f33b16 : AQ := (.seq f33b15 f33b14)
def f33r17 : List AI := [⟨none, (.bin 37 .lss (.t 36) (.t 35))⟩]
def f33b18 : AQ := (.seq (.region f33r17) f33b16)
def f33l19 : AQ := .loop [1, 8, 10, 35, 36] [34, 41, 50, 42000, 42001, 42002] f33b18
theorem uf33l19 (P ts os Q) : awl P f33l19 Q ts os = awl P (.loop [1, 8, 10, 35, 36] [34, 41, 50, 42000, 42001, 42002] f33b18) Q ts os := id rfl
def f33b20 : AQ := (.block 0 f33l19)
def f33r21 : List AI := [⟨none, (.mov 35 (.t 7))⟩, ⟨none, (.mov 36 (.v (.k (.c (.int .i64 0)))))⟩]
def f33b22 : AQ := (.seq (.region f33r21) f33b20)
def f33b23 : AQ := (.seq f33b22 f33b2)
def f33r24 : List AI := [⟨none, (.mov 33 (.t 7))⟩, ⟨none, (.mkslice 34 3 1 8 [(.int .i64 0)] (.v (.k (.c (.int .i64 0)))) (.t 33))⟩, ⟨none, (.mov 10 (.t 34))⟩]
def f33b25 : AQ := (.seq (.region f33r24) f33b23)
def f33r26 : List AI := [⟨none, (.nilL 4 3 1)⟩, ⟨none, (.mov 5 (.v (.k (.c (.str [])))))⟩, ⟨none, (.mov 6 (.v (.k (.c (.bool false)))))⟩]
def f33b27 : AQ := (.seq (.region f33r26) .ret)
def f33b28 : AQ := (.cond (.t 32) f33b27 .skip)
def f33r29 : List AI := [⟨none, (.mov 20 (.t 9))⟩, ⟨none, (.un 21 .not (.t 20))⟩, ⟨none, (.mov 22 (.t 21))⟩, ⟨(some (22, false)), (.mov 23 (.t 7))⟩, ⟨(some (22, false)), (.bin 24 .lss (.t 23) (.v (.k (.c (.int .i64 0)))))⟩, ⟨none, (.pick 25 (.t 22) (.v (.k (.c (.bool true)))) (.t 24))⟩, ⟨none, (.mov 26 (.t 25))⟩, ⟨(some (26, false)), (.mov 27 (.t 7))⟩, ⟨(some (26, false)), (.mov 28 (.t 8))⟩, ⟨(some (26, false)), (.lenS 29 (.t 28))⟩, ⟨(some (26, false)), (.bin 30 .quo (.t 29) (.v (.k (.c (.int .i64 2)))))⟩, ⟨(some (26, false)), (.bin 31 .gtr (.t 27) (.t 30))⟩, ⟨none, (.pick 32 (.t 26) (.v (.k (.c (.bool true)))) (.t 31))⟩]
def f33b30 : AQ := (.seq (.region f33r29) f33b28)
def f33b31 : AQ := (.seq f33b30 f33b25)
def f33r32 : List AI := [⟨none, (.mov 15 (.t 0))⟩, ⟨none, (.call (some 16) 17 [(.t 15)])⟩, ⟨none, (.mov 14 (.t 16))⟩, ⟨none, (.extr 17 (.t 14) 0)⟩, ⟨none, (.extr 18 (.t 14) 1)⟩, ⟨none, (.extr 19 (.t 14) 2)⟩, ⟨none, (.mov 7 (.t 17))⟩, ⟨none, (.mov 8 (.t 18))⟩, ⟨none, (.mov 9 (.t 19))⟩]
def f33b33 : AQ := (.seq (.region f33r32) f33b31)
def f33r34 : List AI := [⟨none, (.nilL 4 3 1)⟩, ⟨none, (.mov 5 (.v (.k (.c (.str [])))))⟩, ⟨none, (.mov 6 (.v (.k (.c (.bool false)))))⟩]
def f33b35 : AQ := (.seq (.region f33r34) f33b33)
def f33 : AQ := f33b35
theorem hf33 : cFunc Tryd.prog 33 = some ⟨55, f33.erase, [(RX.t 4), (RX.t 5), (RX.t 6)]⟩ := by kernel_rfl
theorem okf33 : f33.ok = true := by kernel_rfl
def f34r1 : List AI := [⟨none, (.mov 53 (.t 10))⟩, ⟨none, (.mov 54 (.t 8))⟩, ⟨none, (.mov 4 (.t 53))⟩, ⟨none, (.mov 5 (.t 54))⟩, ⟨none, (.mov 6 (.v (.k (.c (.bool true)))))⟩]
def f34b2 : AQ := (.seq (.region f34r1) .ret)
def f34r3 : List AI := [⟨none, (.bin 52 .add (.t 36) (.v (.k (.c (.int .i64 1)))))⟩, ⟨none, (.mov 36 (.t 52))⟩]
def f34r4 : List AI := [⟨none, (.mov 47 (.t 10))⟩, ⟨none, (.mov 48 (.t 11))⟩, ⟨none, (.bslice 49 9 1 [(.str [])] 1 [(0, (.t 48))])⟩, ⟨none, (.append 50 9 1 16 (.t 47) (.t 49))⟩, ⟨none, (.mov 51 (.t 12))⟩, ⟨none, (.mov 10 (.t 50))⟩, ⟨none, (.mov 8 (.t 51))⟩]
def f34r5 : List AI := [⟨none, (.nilL 4 9 1)⟩, ⟨none, (.mov 5 (.v (.k (.c (.str [])))))⟩, ⟨none, (.mov 6 (.v (.k (.c (.bool false)))))⟩]
def f34b6 : AQ := (.seq (.region f34r5) .ret)
def f34b7 : AQ := (.cond (.t 46) f34b6 .skip)
def f34r8 : List AI := [⟨none, (.mov 45 (.t 13))⟩, ⟨none, (.un 46 .not (.t 45))⟩]
def f34b9 : AQ := (.seq (.region f34r8) f34b7)
def f34b10 : AQ := (.seq f34b9 (.region f34r4))
def f34r11 : List AI := [⟨none, (.mov 39 (.t 1))⟩, ⟨none, (.mov 40 (.t 8))⟩, ⟨none, (.callv (some 41) (.t 39) [(.t 40)])⟩, ⟨none, (.mov 38 (.t 41))⟩, ⟨none, (.extr 42 (.t 38) 0)⟩, ⟨none, (.extr 43 (.t 38) 1)⟩, ⟨none, (.extr 44 (.t 38) 2)⟩, ⟨none, (.mov 11 (.t 42))⟩, ⟨none, (.mov 12 (.t 43))⟩, ⟨none, (.mov 13 (.t 44))⟩]
def f34b12 : AQ := (.seq (.region f34r11) f34b10)
def f34b13 : AQ := (.block 1 f34b12)
def f34b14 : AQ := (.seq f34b13 (.region f34r3))
def f34b15 : AQ := (.cond (.t 37) .skip (.exit 0))
def f34b16 : AQ := (.seq f34b15 f34b14)
def f34r17 : List AI := [⟨none, (.bin 37 .lss (.t 36) (.t 35))⟩]
def f34b18 : AQ := (.seq (.region f34r17) f34b16)
def f34l19 : AQ := .loop [1, 8, 10, 35, 36] [34, 41, 50, 42000, 42001, 42002] f34b18
theorem uf34l19 (P ts os Q) : awl P f34l19 Q ts os = awl P (.loop [1, 8, 10, 35, 36] [34, 41, 50, 42000, 42001, 42002] f34b18) Q ts os := id rfl
def f34b20 : AQ := (.block 0 f34l19)
def f34r21 : List AI := [⟨none, (.mov 35 (.t 7))⟩, ⟨none, (.mov 36 (.v (.k (.c (.int .i64 0)))))⟩]
def f34b22 : AQ := (.seq (.region f34r21) f34b20)
def f34b23 : AQ := (.seq f34b22 f34b2)
def f34r24 : List AI := [⟨none, (.mov 33 (.t 7))⟩, ⟨none, (.mkslice 34 9 1 16 [(.str [])] (.v (.k (.c (.int .i64 0)))) (.t 33))⟩, ⟨none, (.mov 10 (.t 34))⟩]
def f34b25 : AQ := (.seq (.region f34r24) f34b23)
def f34r26 : List AI := [⟨none, (.nilL 4 9 1)⟩, ⟨none, (.mov 5 (.v (.k (.c (.str [])))))⟩, ⟨none, (.mov 6 (.v (.k (.c (.bool false)))))⟩]
def f34b27 : AQ := (.seq (.region f34r26) .ret)
def f34b28 : AQ := (.cond (.t 32) f34b27 .skip)
def f34r29 : List AI := [⟨none, (.mov 20 (.t 9))⟩, ⟨none, (.un 21 .not (.t 20))⟩, ⟨none, (.mov 22 (.t 21))⟩, ⟨(some (22, false)), (.mov 23 (.t 7))⟩, ⟨(some (22, false)), (.bin 24 .lss (.t 23) (.v (.k (.c (.int .i64 0)))))⟩, ⟨none, (.pick 25 (.t 22) (.v (.k (.c (.bool true)))) (.t 24))⟩, ⟨none, (.mov 26 (.t 25))⟩, ⟨(some (26, false)), (.mov 27 (.t 7))⟩, ⟨(some (26, false)), (.mov 28 (.t 8))⟩, ⟨(some (26, false)), (.lenS 29 (.t 28))⟩, ⟨(some (26, false)), (.bin 30 .quo (.t 29) (.v (.k (.c (.int .i64 2)))))⟩, ⟨(some (26, false)), (.bin 31 .gtr (.t 27) (.t 30))⟩, ⟨none, (.pick 32 (.t 26) (.v (.k (.c (.bool true)))) (.t 31))⟩]
def f34b30 : AQ := (.seq (.region f34r29) f34b28)
def f34b31 : AQ := (.seq f34b30 f34b25)
def f34r32 : List AI := [⟨none, (.mov 15 (.t 0))⟩, ⟨none, (.call (some 16) 17 [(.t 15)])⟩, ⟨none, (.mov 14 (.t 16))⟩, ⟨none, (.extr 17 (.t 14) 0)⟩, ⟨none, (.extr 18 (.t 14) 1)⟩, ⟨none, (.extr 19 (.t 14) 2)⟩, ⟨none, (.mov 7 (.t 17))⟩, ⟨none, (.mov 8 (.t 18))⟩, ⟨none, (.mov 9 (.t 19))⟩]
def f34b33 : AQ := (.seq (.region f34r32) f34b31)
def f34r34 : List AI := [⟨none, (.nilL 4 9 1)⟩, ⟨none, (.mov 5 (.v (.k (.c (.str [])))))⟩, ⟨none, (.mov 6 (.v (.k (.c (.bool false)))))⟩]
def f34b35 : AQ := (.seq (.region f34r34) f34b33)
def f34 : AQ := f34b35
theorem hf34 : cFunc Tryd.prog 34 = some ⟨55, f34.erase, [(RX.t 4), (RX.t 5), (RX.t 6)]⟩ := by kernel_rfl
theorem okf34 : f34.ok = true := by kernel_rfl
def f3r1 : List AI := [⟨none, (.mov 139 (.t 11))⟩, ⟨none, (.mov 140 (.t 139))⟩, ⟨(some (140, true)), (.mov 141 (.t 22))⟩, ⟨(some (140, true)), (.mov 142 (.t 23))⟩, ⟨(some (140, true)), (.call (some 143) 26 [(.t 141), (.t 142)])⟩, ⟨none, (.pick 144 (.t 140) (.t 143) (.v (.k (.c (.bool false)))))⟩, ⟨none, (.mov 145 (.t 144))⟩, ⟨(some (145, true)), (.mov 146 (.t 13))⟩, ⟨(some (145, true)), (.mov 147 (.t 16))⟩, ⟨(some (145, true)), (.bin 148 .eql (.t 146) (.t 147))⟩, ⟨none, (.pick 149 (.t 145) (.t 148) (.v (.k (.c (.bool false)))))⟩, ⟨none, (.mov 150 (.t 149))⟩, ⟨(some (150, true)), (.mov 151 (.t 14))⟩, ⟨(some (150, true)), (.mov 152 (.t 17))⟩, ⟨(some (150, true)), (.binB 153 false (.t 151) (.t 152))⟩, ⟨none, (.pick 154 (.t 150) (.t 153) (.v (.k (.c (.bool false)))))⟩, ⟨none, (.mov 10 (.t 154))⟩]
def f3b2 : AQ := (.seq (.region f3r1) .ret)
def f3r3 : List AI := [⟨none, (.mov 134 (.t 4))⟩, ⟨none, (.call (some 135) 25 [(.t 134)])⟩, ⟨none, (.mov 133 (.t 135))⟩, ⟨none, (.extr 136 (.t 133) 0)⟩, ⟨none, (.extr 137 (.t 133) 1)⟩, ⟨none, (.extr 138 (.t 133) 2)⟩, ⟨none, (.mov 23 (.t 136))⟩, ⟨none, (.mov 16 (.t 137))⟩, ⟨none, (.mov 17 (.t 138))⟩]
def f3b4 : AQ := (.seq (.region f3r3) f3b2)
def f3r5 : List AI := [⟨none, (.mov 128 (.t 4))⟩, ⟨none, (.call (some 129) 24 [(.t 128)])⟩, ⟨none, (.mov 127 (.t 129))⟩, ⟨none, (.extr 130 (.t 127) 0)⟩, ⟨none, (.extr 131 (.t 127) 1)⟩, ⟨none, (.extr 132 (.t 127) 2)⟩, ⟨none, (.mov 22 (.t 130))⟩, ⟨none, (.mov 13 (.t 131))⟩, ⟨none, (.mov 14 (.t 132))⟩]
def f3b6 : AQ := (.seq (.region f3r5) f3b4)
def f3r7 : List AI := [⟨none, (.mov 10 (.v (.k (.c (.bool false)))))⟩]
def f3b8 : AQ := (.seq (.region f3r7) .ret)
def f3b9 : AQ := (.cond (.t 126) f3b8 .skip)
def f3r10 : List AI := [⟨none, (.mov 113 (.t 20))⟩, ⟨none, (.mov 114 (.t 21))⟩, ⟨none, (.call (some 115) 23 [(.t 113), (.t 114)])⟩, ⟨none, (.un 116 .not (.t 115))⟩, ⟨none, (.mov 117 (.t 116))⟩, ⟨(some (117, false)), (.mov 118 (.t 13))⟩, ⟨(some (117, false)), (.mov 119 (.t 16))⟩, ⟨(some (117, false)), (.bin 120 .neq (.t 118) (.t 119))⟩, ⟨none, (.pick 121 (.t 117) (.v (.k (.c (.bool true)))) (.t 120))⟩, ⟨none, (.mov 122 (.t 121))⟩, ⟨(some (122, false)), (.mov 123 (.t 14))⟩, ⟨(some (122, false)), (.mov 124 (.t 17))⟩, ⟨(some (122, false)), (.binB 125 true (.t 123) (.t 124))⟩, ⟨none, (.pick 126 (.t 122) (.v (.k (.c (.bool true)))) (.t 125))⟩]
def f3b11 : AQ := (.seq (.region f3r10) f3b9)
def f3b12 : AQ := (.seq f3b11 f3b6)
def f3r13 : List AI := [⟨none, (.mov 108 (.t 4))⟩, ⟨none, (.call (some 109) 22 [(.t 108)])⟩, ⟨none, (.mov 107 (.t 109))⟩, ⟨none, (.extr 110 (.t 107) 0)⟩, ⟨none, (.extr 111 (.t 107) 1)⟩, ⟨none, (.extr 112 (.t 107) 2)⟩, ⟨none, (.mov 21 (.t 110))⟩, ⟨none, (.mov 16 (.t 111))⟩, ⟨none, (.mov 17 (.t 112))⟩]
def f3b14 : AQ := (.seq (.region f3r13) f3b12)
def f3r15 : List AI := [⟨none, (.mov 102 (.t 4))⟩, ⟨none, (.call (some 103) 21 [(.t 102)])⟩, ⟨none, (.mov 101 (.t 103))⟩, ⟨none, (.extr 104 (.t 101) 0)⟩, ⟨none, (.extr 105 (.t 101) 1)⟩, ⟨none, (.extr 106 (.t 101) 2)⟩, ⟨none, (.mov 20 (.t 104))⟩, ⟨none, (.mov 13 (.t 105))⟩, ⟨none, (.mov 14 (.t 106))⟩]
def f3b16 : AQ := (.seq (.region f3r15) f3b14)
def f3r17 : List AI := [⟨none, (.mov 10 (.v (.k (.c (.bool false)))))⟩]
def f3b18 : AQ := (.seq (.region f3r17) .ret)
def f3b19 : AQ := (.cond (.t 100) f3b18 .skip)
def f3r20 : List AI := [⟨none, (.mov 88 (.t 18))⟩, ⟨none, (.mov 89 (.t 19))⟩, ⟨none, (.bin 90 .neq (.t 88) (.t 89))⟩, ⟨none, (.mov 91 (.t 90))⟩, ⟨(some (91, false)), (.mov 92 (.t 13))⟩, ⟨(some (91, false)), (.mov 93 (.t 16))⟩, ⟨(some (91, false)), (.bin 94 .neq (.t 92) (.t 93))⟩, ⟨none, (.pick 95 (.t 91) (.v (.k (.c (.bool true)))) (.t 94))⟩, ⟨none, (.mov 96 (.t 95))⟩, ⟨(some (96, false)), (.mov 97 (.t 14))⟩, ⟨(some (96, false)), (.mov 98 (.t 17))⟩, ⟨(some (96, false)), (.binB 99 true (.t 97) (.t 98))⟩, ⟨none, (.pick 100 (.t 96) (.v (.k (.c (.bool true)))) (.t 99))⟩]
def f3b21 : AQ := (.seq (.region f3r20) f3b19)
def f3b22 : AQ := (.seq f3b21 f3b16)
def f3r23 : List AI := [⟨none, (.mov 83 (.t 4))⟩, ⟨none, (.call (some 84) 20 [(.t 83)])⟩, ⟨none, (.mov 82 (.t 84))⟩, ⟨none, (.extr 85 (.t 82) 0)⟩, ⟨none, (.extr 86 (.t 82) 1)⟩, ⟨none, (.extr 87 (.t 82) 2)⟩, ⟨none, (.mov 19 (.t 85))⟩, ⟨none, (.mov 16 (.t 86))⟩, ⟨none, (.mov 17 (.t 87))⟩]
def f3b24 : AQ := (.seq (.region f3r23) f3b22)
def f3r25 : List AI := [⟨none, (.mov 77 (.t 4))⟩, ⟨none, (.call (some 78) 19 [(.t 77)])⟩, ⟨none, (.mov 76 (.t 78))⟩, ⟨none, (.extr 79 (.t 76) 0)⟩, ⟨none, (.extr 80 (.t 76) 1)⟩, ⟨none, (.extr 81 (.t 76) 2)⟩, ⟨none, (.mov 18 (.t 79))⟩, ⟨none, (.mov 13 (.t 80))⟩, ⟨none, (.mov 14 (.t 81))⟩]
def f3b26 : AQ := (.seq (.region f3r25) f3b24)
def f3r27 : List AI := [⟨none, (.mov 10 (.v (.k (.c (.bool false)))))⟩]
def f3b28 : AQ := (.seq (.region f3r27) .ret)
def f3b29 : AQ := (.cond (.t 75) f3b28 .skip)
def f3r30 : List AI := [⟨none, (.mov 63 (.t 12))⟩, ⟨none, (.mov 64 (.t 15))⟩, ⟨none, (.bin 65 .neq (.t 63) (.t 64))⟩, ⟨none, (.mov 66 (.t 65))⟩, ⟨(some (66, false)), (.mov 67 (.t 13))⟩, ⟨(some (66, false)), (.mov 68 (.t 16))⟩, ⟨(some (66, false)), (.bin 69 .neq (.t 67) (.t 68))⟩, ⟨none, (.pick 70 (.t 66) (.v (.k (.c (.bool true)))) (.t 69))⟩, ⟨none, (.mov 71 (.t 70))⟩, ⟨(some (71, false)), (.mov 72 (.t 14))⟩, ⟨(some (71, false)), (.mov 73 (.t 17))⟩, ⟨(some (71, false)), (.binB 74 true (.t 72) (.t 73))⟩, ⟨none, (.pick 75 (.t 71) (.v (.k (.c (.bool true)))) (.t 74))⟩]
def f3b31 : AQ := (.seq (.region f3r30) f3b29)
def f3b32 : AQ := (.seq f3b31 f3b26)
def f3r33 : List AI := [⟨none, (.mov 58 (.t 4))⟩, ⟨none, (.call (some 59) 18 [(.t 58)])⟩, ⟨none, (.mov 57 (.t 59))⟩, ⟨none, (.extr 60 (.t 57) 0)⟩, ⟨none, (.extr 61 (.t 57) 1)⟩, ⟨none, (.extr 62 (.t 57) 2)⟩, ⟨none, (.mov 15 (.t 60))⟩, ⟨none, (.mov 16 (.t 61))⟩, ⟨none, (.mov 17 (.t 62))⟩]
def f3b34 : AQ := (.seq (.region f3r33) f3b32)
def f3r35 : List AI := [⟨none, (.mov 52 (.t 4))⟩, ⟨none, (.call (some 53) 17 [(.t 52)])⟩, ⟨none, (.mov 51 (.t 53))⟩, ⟨none, (.extr 54 (.t 51) 0)⟩, ⟨none, (.extr 55 (.t 51) 1)⟩, ⟨none, (.extr 56 (.t 51) 2)⟩, ⟨none, (.mov 12 (.t 54))⟩, ⟨none, (.mov 13 (.t 55))⟩, ⟨none, (.mov 14 (.t 56))⟩]
def f3b36 : AQ := (.seq (.region f3r35) f3b34)
def f3r37 : List AI := [⟨none, (.mov 10 (.v (.k (.c (.bool false)))))⟩]
def f3b38 : AQ := (.seq (.region f3r37) .ret)
def f3b39 : AQ := (.cond (.t 50) f3b38 .skip)
def f3r40 : List AI := [⟨none, (.mov 25 (.t 0))⟩, ⟨none, (.call (some 26) 9 [(.t 25)])⟩, ⟨none, (.mov 27 (.t 0))⟩, ⟨none, (.call (some 28) 10 [(.t 27)])⟩, ⟨none, (.bin 29 .neq (.t 26) (.t 28))⟩, ⟨none, (.mov 30 (.t 29))⟩, ⟨(some (30, false)), (.mov 31 (.t 1))⟩, ⟨(some (30, false)), (.call (some 32) 11 [(.t 31)])⟩, ⟨(some (30, false)), (.mov 33 (.t 1))⟩, ⟨(some (30, false)), (.call (some 34) 12 [(.t 33)])⟩, ⟨(some (30, false)), (.bin 35 .neq (.t 32) (.t 34))⟩, ⟨none, (.pick 36 (.t 30) (.v (.k (.c (.bool true)))) (.t 35))⟩, ⟨none, (.mov 37 (.t 36))⟩, ⟨(some (37, false)), (.mov 38 (.t 2))⟩, ⟨(some (37, false)), (.call (some 39) 13 [(.t 38)])⟩, ⟨(some (37, false)), (.mov 40 (.t 2))⟩, ⟨(some (37, false)), (.call (some 41) 14 [(.t 40)])⟩, ⟨(some (37, false)), (.bin 42 .neq (.t 39) (.t 41))⟩, ⟨none, (.pick 43 (.t 37) (.v (.k (.c (.bool true)))) (.t 42))⟩, ⟨none, (.mov 44 (.t 43))⟩, ⟨(some (44, false)), (.mov 45 (.t 3))⟩, ⟨(some (44, false)), (.call (some 46) 15 [(.t 45)])⟩, ⟨(some (44, false)), (.mov 47 (.t 3))⟩, ⟨(some (44, false)), (.call (some 48) 16 [(.t 47)])⟩, ⟨(some (44, false)), (.bin 49 .neq (.t 46) (.t 48))⟩, ⟨none, (.pick 50 (.t 44) (.v (.k (.c (.bool true)))) (.t 49))⟩]
def f3b41 : AQ := (.seq (.region f3r40) f3b39)
def f3b42 : AQ := (.seq f3b41 f3b36)
def f3r43 : List AI := [⟨none, (.call (some 24) 8 [])⟩, ⟨none, (.mov 11 (.t 24))⟩]
def f3b44 : AQ := (.seq (.region f3r43) f3b42)
def f3r45 : List AI := [⟨none, (.mov 10 (.v (.k (.c (.bool false)))))⟩]
def f3b46 : AQ := (.seq (.region f3r45) f3b44)
def f3 : AQ := f3b46
def f4r1 : List AI := [⟨none, (.mov 92 (.t 11))⟩, ⟨none, (.mov 93 (.t 92))⟩, ⟨(some (93, true)), (.mov 94 (.t 14))⟩, ⟨none, (.pick 95 (.t 93) (.t 94) (.v (.k (.c (.bool false)))))⟩, ⟨none, (.mov 96 (.t 95))⟩, ⟨(some (96, true)), (.mov 97 (.t 17))⟩, ⟨(some (96, true)), (.mov 98 (.t 3))⟩, ⟨(some (96, true)), (.call (some 99) 26 [(.t 97), (.t 98)])⟩, ⟨none, (.pick 100 (.t 96) (.t 99) (.v (.k (.c (.bool false)))))⟩, ⟨none, (.mov 101 (.t 100))⟩, ⟨(some (101, true)), (.mov 102 (.t 13))⟩, ⟨(some (101, true)), (.mov 103 (.t 4))⟩, ⟨(some (101, true)), (.bin 104 .eql (.t 102) (.t 103))⟩, ⟨none, (.pick 105 (.t 101) (.t 104) (.v (.k (.c (.bool false)))))⟩, ⟨none, (.mov 10 (.t 105))⟩]
def f4b2 : AQ := (.seq (.region f4r1) .ret)
def f4r3 : List AI := [⟨none, (.mov 84 (.t 3))⟩, ⟨none, (.call (some 85) 15 [(.t 84)])⟩, ⟨none, (.mov 86 (.t 4))⟩, ⟨none, (.bin 87 .add (.t 85) (.t 86))⟩, ⟨none, (.call (some 88) 24 [(.t 87)])⟩, ⟨none, (.mov 83 (.t 88))⟩, ⟨none, (.extr 89 (.t 83) 0)⟩, ⟨none, (.extr 90 (.t 83) 1)⟩, ⟨none, (.extr 91 (.t 83) 2)⟩, ⟨none, (.mov 17 (.t 89))⟩, ⟨none, (.mov 13 (.t 90))⟩, ⟨none, (.mov 14 (.t 91))⟩]
def f4b4 : AQ := (.seq (.region f4r3) f4b2)
def f4r5 : List AI := [⟨none, (.mov 10 (.v (.k (.c (.bool false)))))⟩]
def f4b6 : AQ := (.seq (.region f4r5) .ret)
def f4b7 : AQ := (.cond (.t 82) f4b6 .skip)
def f4r8 : List AI := [⟨none, (.mov 70 (.t 14))⟩, ⟨none, (.un 71 .not (.t 70))⟩, ⟨none, (.mov 72 (.t 71))⟩, ⟨(some (72, false)), (.mov 73 (.t 16))⟩, ⟨(some (72, false)), (.mov 74 (.t 2))⟩, ⟨(some (72, false)), (.call (some 75) 23 [(.t 73), (.t 74)])⟩, ⟨(some (72, false)), (.un 76 .not (.t 75))⟩, ⟨none, (.pick 77 (.t 72) (.v (.k (.c (.bool true)))) (.t 76))⟩, ⟨none, (.mov 78 (.t 77))⟩, ⟨(some (78, false)), (.mov 79 (.t 13))⟩, ⟨(some (78, false)), (.mov 80 (.t 4))⟩, ⟨(some (78, false)), (.bin 81 .neq (.t 79) (.t 80))⟩, ⟨none, (.pick 82 (.t 78) (.v (.k (.c (.bool true)))) (.t 81))⟩]
def f4b9 : AQ := (.seq (.region f4r8) f4b7)
def f4b10 : AQ := (.seq f4b9 f4b4)
def f4r11 : List AI := [⟨none, (.mov 62 (.t 2))⟩, ⟨none, (.call (some 63) 13 [(.t 62)])⟩, ⟨none, (.mov 64 (.t 4))⟩, ⟨none, (.bin 65 .add (.t 63) (.t 64))⟩, ⟨none, (.call (some 66) 21 [(.t 65)])⟩, ⟨none, (.mov 61 (.t 66))⟩, ⟨none, (.extr 67 (.t 61) 0)⟩, ⟨none, (.extr 68 (.t 61) 1)⟩, ⟨none, (.extr 69 (.t 61) 2)⟩, ⟨none, (.mov 16 (.t 67))⟩, ⟨none, (.mov 13 (.t 68))⟩, ⟨none, (.mov 14 (.t 69))⟩]
def f4b12 : AQ := (.seq (.region f4r11) f4b10)
def f4r13 : List AI := [⟨none, (.mov 10 (.v (.k (.c (.bool false)))))⟩]
def f4b14 : AQ := (.seq (.region f4r13) .ret)
def f4b15 : AQ := (.cond (.t 60) f4b14 .skip)
def f4r16 : List AI := [⟨none, (.mov 49 (.t 14))⟩, ⟨none, (.un 50 .not (.t 49))⟩, ⟨none, (.mov 51 (.t 50))⟩, ⟨(some (51, false)), (.mov 52 (.t 15))⟩, ⟨(some (51, false)), (.mov 53 (.t 1))⟩, ⟨(some (51, false)), (.bin 54 .neq (.t 52) (.t 53))⟩, ⟨none, (.pick 55 (.t 51) (.v (.k (.c (.bool true)))) (.t 54))⟩, ⟨none, (.mov 56 (.t 55))⟩, ⟨(some (56, false)), (.mov 57 (.t 13))⟩, ⟨(some (56, false)), (.mov 58 (.t 4))⟩, ⟨(some (56, false)), (.bin 59 .neq (.t 57) (.t 58))⟩, ⟨none, (.pick 60 (.t 56) (.v (.k (.c (.bool true)))) (.t 59))⟩]
def f4b17 : AQ := (.seq (.region f4r16) f4b15)
def f4b18 : AQ := (.seq f4b17 f4b12)
def f4r19 : List AI := [⟨none, (.mov 41 (.t 1))⟩, ⟨none, (.call (some 42) 11 [(.t 41)])⟩, ⟨none, (.mov 43 (.t 4))⟩, ⟨none, (.bin 44 .add (.t 42) (.t 43))⟩, ⟨none, (.call (some 45) 19 [(.t 44)])⟩, ⟨none, (.mov 40 (.t 45))⟩, ⟨none, (.extr 46 (.t 40) 0)⟩, ⟨none, (.extr 47 (.t 40) 1)⟩, ⟨none, (.extr 48 (.t 40) 2)⟩, ⟨none, (.mov 15 (.t 46))⟩, ⟨none, (.mov 13 (.t 47))⟩, ⟨none, (.mov 14 (.t 48))⟩]
def f4b20 : AQ := (.seq (.region f4r19) f4b18)
def f4r21 : List AI := [⟨none, (.mov 10 (.v (.k (.c (.bool false)))))⟩]
def f4b22 : AQ := (.seq (.region f4r21) .ret)
def f4b23 : AQ := (.cond (.t 39) f4b22 .skip)
def f4r24 : List AI := [⟨none, (.mov 28 (.t 14))⟩, ⟨none, (.un 29 .not (.t 28))⟩, ⟨none, (.mov 30 (.t 29))⟩, ⟨(some (30, false)), (.mov 31 (.t 12))⟩, ⟨(some (30, false)), (.mov 32 (.t 0))⟩, ⟨(some (30, false)), (.bin 33 .neq (.t 31) (.t 32))⟩, ⟨none, (.pick 34 (.t 30) (.v (.k (.c (.bool true)))) (.t 33))⟩, ⟨none, (.mov 35 (.t 34))⟩, ⟨(some (35, false)), (.mov 36 (.t 13))⟩, ⟨(some (35, false)), (.mov 37 (.t 4))⟩, ⟨(some (35, false)), (.bin 38 .neq (.t 36) (.t 37))⟩, ⟨none, (.pick 39 (.t 35) (.v (.k (.c (.bool true)))) (.t 38))⟩]
def f4b25 : AQ := (.seq (.region f4r24) f4b23)
def f4b26 : AQ := (.seq f4b25 f4b20)
def f4r27 : List AI := [⟨none, (.mov 20 (.t 0))⟩, ⟨none, (.call (some 21) 9 [(.t 20)])⟩, ⟨none, (.mov 22 (.t 4))⟩, ⟨none, (.bin 23 .add (.t 21) (.t 22))⟩, ⟨none, (.call (some 24) 17 [(.t 23)])⟩, ⟨none, (.mov 19 (.t 24))⟩, ⟨none, (.extr 25 (.t 19) 0)⟩, ⟨none, (.extr 26 (.t 19) 1)⟩, ⟨none, (.extr 27 (.t 19) 2)⟩, ⟨none, (.mov 12 (.t 25))⟩, ⟨none, (.mov 13 (.t 26))⟩, ⟨none, (.mov 14 (.t 27))⟩]
def f4b28 : AQ := (.seq (.region f4r27) f4b26)
def f4r29 : List AI := [⟨none, (.call (some 18) 8 [])⟩, ⟨none, (.mov 11 (.t 18))⟩]
def f4b30 : AQ := (.seq (.region f4r29) f4b28)
def f4r31 : List AI := [⟨none, (.mov 10 (.v (.k (.c (.bool false)))))⟩]
def f4b32 : AQ := (.seq (.region f4r31) f4b30)
def f4 : AQ := f4b32
theorem hf4 : cFunc Tryd.prog 4 = some ⟨106, f4.erase, [(RX.t 10)]⟩ := by kernel_rfl
theorem okf4 : f4.ok = true := by kernel_rfl
def f8r1 : List AI := [⟨none, (.call (some 67) 9 [(.v (.k (.c (.int .i64 (-7)))))])⟩, ⟨none, (.bin 68 .eql (.t 67) (.v (.k (.c (.str [45, 55, 59])))))⟩, ⟨none, (.mov 69 (.t 68))⟩, ⟨(some (69, true)), (.call (some 70) 11 [(.v (.k (.c (.str [97, 98, 59]))))])⟩, ⟨(some (69, true)), (.bin 71 .eql (.t 70) (.v (.k (.c (.str [51, 59, 97, 98, 59])))))⟩, ⟨none, (.pick 72 (.t 69) (.t 71) (.v (.k (.c (.bool false)))))⟩, ⟨none, (.mov 73 (.t 72))⟩, ⟨(some (73, true)), (.bslice 74 3 1 [(.int .i64 0)] 2 [(0, (.v (.k (.c (.int .i64 4))))), (1, (.v (.k (.c (.int .i64 0)))))])⟩, ⟨(some (73, true)), (.call (some 75) 13 [(.t 74)])⟩, ⟨(some (73, true)), (.bin 76 .eql (.t 75) (.v (.k (.c (.str [50, 59, 52, 59, 48, 59])))))⟩, ⟨none, (.pick 77 (.t 73) (.t 76) (.v (.k (.c (.bool false)))))⟩, ⟨none, (.mov 78 (.t 77))⟩, ⟨(some (78, true)), (.bslice 79 9 1 [(.str [])] 2 [(0, (.v (.k (.c (.str []))))), (1, (.v (.k (.c (.str [120])))))])⟩, ⟨(some (78, true)), (.call (some 80) 15 [(.t 79)])⟩, ⟨(some (78, true)), (.bin 81 .eql (.t 80) (.v (.k (.c (.str [50, 59, 48, 59, 49, 59, 120])))))⟩, ⟨none, (.pick 82 (.t 78) (.t 81) (.v (.k (.c (.bool false)))))⟩, ⟨none, (.mov 83 (.t 82))⟩, ⟨(some (83, true)), (.mov 84 (.t 1))⟩, ⟨(some (83, true)), (.iaddr 85 1 (.t 84) (.v (.k (.c (.int .i64 0)))))⟩, ⟨(some (83, true)), (.load 86 1 false (.t 85))⟩, ⟨(some (83, true)), (.bin 87 .eql (.t 86) (.v (.k (.c (.int .i64 4)))))⟩, ⟨none, (.pick 88 (.t 83) (.t 87) (.v (.k (.c (.bool false)))))⟩, ⟨none, (.mov 89 (.t 88))⟩, ⟨(some (89, true)), (.mov 90 (.t 1))⟩, ⟨(some (89, true)), (.iaddr 91 1 (.t 90) (.v (.k (.c (.int .i64 1)))))⟩, ⟨(some (89, true)), (.load 92 1 false (.t 91))⟩, ⟨(some (89, true)), (.bin 93 .eql (.t 92) (.v (.k (.c (.int .i64 0)))))⟩, ⟨none, (.pick 94 (.t 89) (.t 93) (.v (.k (.c (.bool false)))))⟩, ⟨none, (.mov 95 (.t 94))⟩, ⟨(some (95, true)), (.mov 96 (.t 2))⟩, ⟨(some (95, true)), (.bin 97 .eql (.t 96) (.v (.k (.c (.str [120])))))⟩, ⟨none, (.pick 98 (.t 95) (.t 97) (.v (.k (.c (.bool false)))))⟩, ⟨none, (.mov 99 (.t 98))⟩, ⟨(some (99, true)), (.mov 100 (.t 4))⟩, ⟨(some (99, true)), (.iaddr 101 1 (.t 100) (.v (.k (.c (.int .i64 1)))))⟩, ⟨(some (99, true)), (.load 102 1 false (.t 101))⟩, ⟨(some (99, true)), (.bin 103 .eql (.t 102) (.v (.k (.c (.str [120])))))⟩, ⟨none, (.pick 104 (.t 99) (.t 103) (.v (.k (.c (.bool false)))))⟩, ⟨none, (.mov 105 (.t 104))⟩, ⟨(some (105, true)), (.mov 106 (.t 5))⟩, ⟨(some (105, true)), (.bin 107 .eql (.t 106) (.v (.k (.c (.str [])))))⟩, ⟨none, (.pick 108 (.t 105) (.t 107) (.v (.k (.c (.bool false)))))⟩, ⟨none, (.mov 109 (.t 108))⟩, ⟨(some (109, true)), (.mov 110 (.t 13))⟩, ⟨(some (109, true)), (.bin 111 .eql (.t 110) (.v (.k (.c (.int .i64 (-9223372036854775808))))))⟩, ⟨none, (.pick 112 (.t 109) (.t 111) (.v (.k (.c (.bool false)))))⟩, ⟨none, (.mov 113 (.t 112))⟩, ⟨(some (113, true)), (.mov 114 (.t 14))⟩, ⟨(some (113, true)), (.bin 115 .eql (.t 114) (.v (.k (.c (.str [])))))⟩, ⟨none, (.pick 116 (.t 113) (.t 115) (.v (.k (.c (.bool false)))))⟩, ⟨none, (.mov 0 (.t 116))⟩]
def f8b2 : AQ := (.seq (.region f8r1) .ret)
def f8r3 : List AI := [⟨none, (.mov 0 (.v (.k (.c (.bool false)))))⟩]
def f8b4 : AQ := (.seq (.region f8r3) .ret)
def f8b5 : AQ := (.cond (.t 66) f8b4 .skip)
def f8r6 : List AI := [⟨none, (.mov 41 (.t 3))⟩, ⟨none, (.un 42 .not (.t 41))⟩, ⟨none, (.mov 43 (.t 42))⟩, ⟨(some (43, false)), (.mov 44 (.t 6))⟩, ⟨(some (43, false)), (.un 45 .not (.t 44))⟩, ⟨none, (.pick 46 (.t 43) (.v (.k (.c (.bool true)))) (.t 45))⟩, ⟨none, (.mov 47 (.t 46))⟩, ⟨(some (47, false)), (.mov 48 (.t 15))⟩, ⟨(some (47, false)), (.un 49 .not (.t 48))⟩, ⟨none, (.pick 50 (.t 47) (.v (.k (.c (.bool true)))) (.t 49))⟩, ⟨none, (.mov 51 (.t 50))⟩, ⟨(some (51, false)), (.mov 52 (.t 9))⟩, ⟨none, (.pick 53 (.t 51) (.v (.k (.c (.bool true)))) (.t 52))⟩, ⟨none, (.mov 54 (.t 53))⟩, ⟨(some (54, false)), (.mov 55 (.t 12))⟩, ⟨none, (.pick 56 (.t 54) (.v (.k (.c (.bool true)))) (.t 55))⟩, ⟨none, (.mov 57 (.t 56))⟩, ⟨(some (57, false)), (.mov 58 (.t 1))⟩, ⟨(some (57, false)), (.len 59 (.t 58))⟩, ⟨(some (57, false)), (.bin 60 .neq (.t 59) (.v (.k (.c (.int .i64 2)))))⟩, ⟨none, (.pick 61 (.t 57) (.v (.k (.c (.bool true)))) (.t 60))⟩, ⟨none, (.mov 62 (.t 61))⟩, ⟨(some (62, false)), (.mov 63 (.t 4))⟩, ⟨(some (62, false)), (.len 64 (.t 63))⟩, ⟨(some (62, false)), (.bin 65 .neq (.t 64) (.v (.k (.c (.int .i64 2)))))⟩, ⟨none, (.pick 66 (.t 62) (.v (.k (.c (.bool true)))) (.t 65))⟩]
def f8b7 : AQ := (.seq (.region f8r6) f8b5)
def f8b8 : AQ := (.seq f8b7 f8b2)
def f8r9 : List AI := [⟨none, (.call (some 37) 17 [(.v (.k (.c (.str [45, 57, 50, 50, 51, 51, 55, 50, 48, 51, 54, 56, 53, 52, 55, 55, 53, 56, 48, 56, 59]))))])⟩, ⟨none, (.mov 36 (.t 37))⟩, ⟨none, (.extr 38 (.t 36) 0)⟩, ⟨none, (.extr 39 (.t 36) 1)⟩, ⟨none, (.extr 40 (.t 36) 2)⟩, ⟨none, (.mov 13 (.t 38))⟩, ⟨none, (.mov 14 (.t 39))⟩, ⟨none, (.mov 15 (.t 40))⟩]
def f8b10 : AQ := (.seq (.region f8r9) f8b8)
def f8r11 : List AI := [⟨none, (.call (some 32) 17 [(.v (.k (.c (.str [57, 50, 50, 51, 51, 55, 50, 48, 51, 54, 56, 53, 52, 55, 55, 53, 56, 48, 56, 59]))))])⟩, ⟨none, (.mov 31 (.t 32))⟩, ⟨none, (.extr 33 (.t 31) 0)⟩, ⟨none, (.extr 34 (.t 31) 1)⟩, ⟨none, (.extr 35 (.t 31) 2)⟩, ⟨none, (.mov 10 (.t 33))⟩, ⟨none, (.mov 11 (.t 34))⟩, ⟨none, (.mov 12 (.t 35))⟩]
def f8b12 : AQ := (.seq (.region f8r11) f8b10)
def f8r13 : List AI := [⟨none, (.call (some 27) 17 [(.v (.k (.c (.str [45, 48, 59]))))])⟩, ⟨none, (.mov 26 (.t 27))⟩, ⟨none, (.extr 28 (.t 26) 0)⟩, ⟨none, (.extr 29 (.t 26) 1)⟩, ⟨none, (.extr 30 (.t 26) 2)⟩, ⟨none, (.mov 7 (.t 28))⟩, ⟨none, (.mov 8 (.t 29))⟩, ⟨none, (.mov 9 (.t 30))⟩]
def f8b14 : AQ := (.seq (.region f8r13) f8b12)
def f8r15 : List AI := [⟨none, (.call (some 22) 24 [(.v (.k (.c (.str [50, 59, 48, 59, 49, 59, 120]))))])⟩, ⟨none, (.mov 21 (.t 22))⟩, ⟨none, (.extr 23 (.t 21) 0)⟩, ⟨none, (.extr 24 (.t 21) 1)⟩, ⟨none, (.extr 25 (.t 21) 2)⟩, ⟨none, (.mov 4 (.t 23))⟩, ⟨none, (.mov 5 (.t 24))⟩, ⟨none, (.mov 6 (.t 25))⟩]
def f8b16 : AQ := (.seq (.region f8r15) f8b14)
def f8r17 : List AI := [⟨none, (.call (some 17) 21 [(.v (.k (.c (.str [50, 59, 52, 59, 48, 59, 120]))))])⟩, ⟨none, (.mov 16 (.t 17))⟩, ⟨none, (.extr 18 (.t 16) 0)⟩, ⟨none, (.extr 19 (.t 16) 1)⟩, ⟨none, (.extr 20 (.t 16) 2)⟩, ⟨none, (.mov 1 (.t 18))⟩, ⟨none, (.mov 2 (.t 19))⟩, ⟨none, (.mov 3 (.t 20))⟩]
def f8b18 : AQ := (.seq (.region f8r17) f8b16)
def f8r19 : List AI := [⟨none, (.mov 0 (.v (.k (.c (.bool false)))))⟩]
def f8b20 : AQ := (.seq (.region f8r19) f8b18)
def f8 : AQ := f8b20
theorem hf8 : cFunc Tryd.prog 8 = some ⟨117, f8.erase, [(RX.t 0)]⟩ := by kernel_rfl
theorem okf8 : f8.ok = true := by kernel_rfl
end Go.Abs


namespace Go.Abs
theorem wrap_in {n : Int} (h1 : -9223372036854775808 ≤ n) (h2 : n ≤ 9223372036854775807) : IntKind.i64.wrap n = n := IntWalk.i64_in n ⟨h1, h2⟩
def lstC (sz : Nat) (rows : List (List C)) : C := .list (if rows.isEmpty then 0 else sz) none rows
abbrev lst (sz : Nat) (rows : List (List C)) : V := .k (.c (lstC sz rows))
def ints (l : List Int) : List (List C) := l.map fun n => [.int .i64 n]
theorem normRows_eq {α : Type} {f : α → List C} (hf : ∀ x, C.normRow (f x) = f x) (l : List α) : C.normRows (l.map f) = l.map f := by
  induction l with
  | nil => rfl
  | cons a l ih => simp [C.normRows, hf, ih]
theorem lstC_norm {α : Type} {f : α → List C} (hf : ∀ x, C.normRow (f x) = f x) (sz : Nat) (l : List α) : (lstC sz (l.map f)).norm = lstC sz (l.map f) := by
  unfold lstC
  simp only [C.norm, normRows_eq hf]
  cases l <;> simp
inductive Term where
  | mk (op n : Int) (args : List Term)
  deriving Inhabited
def Term.op : Term → Int | .mk o _ _ => o
def Term.n : Term → Int | .mk _ n _ => n
def Term.args : Term → List Term | .mk _ _ a => a
mutual
def encT : Term → List C
  | .mk o n a => [.int .i64 o, .int .i64 n, lstC 3 (encTs a)]
def encTs : List Term → List (List C)
  | [] => []
  | t :: l => encT t :: encTs l
end
theorem encTs_map : ∀ (l : List Term), encTs l = l.map encT
  | [] => rfl
  | t :: l => by simp [encTs, encTs_map l]
theorem encT_eq (t : Term) : encT t = [.int .i64 t.op, .int .i64 t.n, lstC 3 (t.args.map encT)] := by
  cases t with
  | mk o n a => simp [encT, Term.op, Term.n, Term.args, encTs_map]
mutual
theorem encT_norm : ∀ (t : Term), C.normRow (encT t) = encT t
  | .mk o n a => by
    simp only [encT, C.normRow, C.norm, lstC, encTs_norm a]
    cases a <;> simp [encTs]
theorem encTs_norm : ∀ (l : List Term), C.normRows (encTs l) = encTs l
  | [] => rfl
  | t :: l => by simp only [encTs, C.normRows, encT_norm t, encTs_norm l]
end
structure Choice where
  ask : Int
  by_ : Int
  whole : Bool
  deriving Inhabited
structure Rule where
  ask : Int
  term : Term
  deriving Inhabited
structure Order where
  name : List UInt8
  accepts : Bool
  choices : List Choice
  rules : List Rule
  deriving Inhabited
def encChoice (c : Choice) : List C := [.int .i64 c.ask, .int .i64 c.by_, .bool c.whole]
def encRule (r : Rule) : List C := .int .i64 r.ask :: encT r.term
def encOrder (o : Order) : List C := [.str o.name, .bool o.accepts, lstC 3 (o.choices.map encChoice), lstC 4 (o.rules.map encRule)]
theorem encChoice_norm (c : Choice) : C.normRow (encChoice c) = encChoice c := rfl
theorem encRule_norm (r : Rule) : C.normRow (encRule r) = encRule r := by simp [encRule, C.normRow, C.norm, encT_norm]
theorem encOrder_norm (o : Order) : C.normRow (encOrder o) = encOrder o := by
  simp only [encOrder, C.normRow, C.norm, lstC_norm encChoice_norm, lstC_norm encRule_norm]
structure Cell where
  known : Bool
  n : Int
  deriving Inhabited
def encCell (c : Cell) : List C := [.bool c.known, .int .i64 c.n]
theorem encCell_norm (c : Cell) : C.normRow (encCell c) = encCell c := rfl
def encI (n : Int) : List C := [.int .i64 n]
@[simp] theorem normRow_int (k : IntKind) (n : Int) : C.normRow [.int k n] = [.int k n] := rfl
@[simp] theorem normRow_encI (n : Int) : C.normRow (encI n) = encI n := rfl
attribute [simp] encT_norm encChoice_norm encRule_norm encOrder_norm encCell_norm C.normRow
@[simp] theorem norm_int (k : IntKind) (n : Int) : (C.int k n).norm = .int k n := rfl
@[simp] theorem norm_bool (b : Bool) : (C.bool b).norm = .bool b := rfl
@[simp] theorem norm_str (s : List UInt8) : (C.str s).norm = .str s := rfl
@[simp] theorem norm_ro (row : List C) (off : Nat) : (C.ro row off).norm = .ro (C.normRow row) off := rfl
@[simp] theorem norm_fn (f : FuncId) (caps : List C) : (C.fn f caps).norm = .fn f (C.normRow caps) := rfl
@[simp] theorem normRows_T (l : List Term) : C.normRows (l.map encT) = l.map encT := normRows_eq encT_norm l
@[simp] theorem normRows_Ch (l : List Choice) : C.normRows (l.map encChoice) = l.map encChoice := normRows_eq encChoice_norm l
@[simp] theorem normRows_R (l : List Rule) : C.normRows (l.map encRule) = l.map encRule := normRows_eq encRule_norm l
@[simp] theorem normRows_O (l : List Order) : C.normRows (l.map encOrder) = l.map encOrder := normRows_eq encOrder_norm l
@[simp] theorem normRows_Ce (l : List Cell) : C.normRows (l.map encCell) = l.map encCell := normRows_eq encCell_norm l
@[simp] theorem normRows_ints (l : List Int) : C.normRows (ints l) = ints l := normRows_eq (fun _ => rfl) l
@[simp] theorem normRows_nil : C.normRows [] = [] := rfl
@[simp] theorem normRows_cons (r : List C) (l : List (List C)) : C.normRows (r :: l) = C.normRow r :: C.normRows l := rfl
@[simp] theorem ints_len (l : List Int) : (ints l).length = l.length := by simp [ints]
theorem ints_at {l : List Int} {i : Nat} (h : i < l.length) : (ints l).getD i [] = [.int .i64 l[i]] := by simp [ints, h]
@[simp] theorem ints_isEmpty (l : List Int) : (ints l).isEmpty = l.isEmpty := by cases l <;> rfl
theorem ints_snoc (l : List Int) (n : Int) : ints l ++ [[.int .i64 n]] = ints (l ++ [n]) := by simp [ints]
theorem r_vLen_lst (o : Nat → Option O) (sz : Nat) (rows : List (List C)) : vLen o (.k (.c (lstC sz rows))) = some (True, .int .i64 rows.length) := rfl
theorem r_vIaddr_lst (o : Nat → Option O) (sz : Nat) (rows : List (List C)) (k : IntKind) (n : Int) : vIaddr o sz (.k (.c (lstC sz rows))) (.k (.c (.int k n))) = some (0 ≤ n ∧ n < rows.length, .k (.pel sz rows n.toNat 0)) := by
  simp only [lstC, vIaddr, Option.some.injEq, Prod.mk.injEq]
  cases rows with
  | nil => simp; omega
  | cons a l =>
    refine ⟨?_, ?_⟩
    · simp
    · simp
@[simp] theorem norm_lst (sz : Nat) (rows : List (List C)) : (lstC sz rows).norm = lstC sz (C.normRows rows) := by
  unfold lstC
  simp only [C.norm]
  cases rows <;> simp [C.normRows]
@[simp] theorem norm_list (sz : Nat) (nl : Option Bool) (rows : List (List C)) : (C.list sz nl rows).norm = lstC sz (C.normRows rows) := by
  unfold lstC
  simp only [C.norm]
  cases rows <;> simp [C.normRows]
theorem len_lst {sz : Nat} {rows : List (List C)} {l : List V} (hm : lst sz rows ∈ l) (h : ∀ v, v ∈ l → ∀ c, c ∈ v.topC → ∀ sz nl rows, c = .list sz nl rows → rows.length ≤ 9223372036854775807) : rows.length ≤ 9223372036854775807 :=
  h _ hm (lstC sz rows) (by simp [V.topC]) _ _ _ rfl
section
variable {P : Program} {f : FuncId} {vs : List V} {K : KK} {d : Nat} {ts : TS} {os : OS}
theorem call_s {args : List V} {r : V} {X : Prop} (hs : Spec P f args (fun r' => r' = r)) (hk : K (insT d r ts) os)
    (hp : vs.all (fun v => (lendL os v).isPure) = true := by simp [lendL, lendO, lookO, V.isPure])
    (ha : vs.map (fun v => (lendL os v).norm) = args := by simp [lendL, lendO, lookO, V.norm, encT_eq, encRule, encOrder, encChoice, encCell, norm_list, lst]) (hr : r.scalar = true := by rfl) : callK P f vs [] K (some d) ts os ∨ X := by
  refine .inl ⟨hp, r, .inl ?_, ?_⟩
  · simpa [ha] using hs
  · rw [if_pos hr]; exact hk
theorem call_c {cs : List C} {args : List V} {r : V} {X : Prop} (hs : Spec P f args (fun r' => r' = r)) (hk : K (insT d r ts) os)
    (hp : vs.all (fun v => (lendL os v).isPure) = true := by simp [lendL, lendO, lookO, V.isPure])
    (ha : (vs.map (fun v => (lendL os v).norm) ++ cs.map fun c => .k (.c c.norm)) = args := by simp [lendL, lendO, lookO, V.norm, encT_eq, encRule, encOrder, encChoice, encCell, norm_list, lst]) (hr : r.scalar = true := by rfl) : callK P f vs cs K (some d) ts os ∨ X := by
  refine .inl ⟨hp, r, .inl (by rw [ha]; exact hs), ?_⟩
  rw [if_pos hr]; exact hk
theorem call_r {args : List V} {r : V} {X : Prop} (hs : Spec P f args (fun r' => r' = r)) (hk : retK r K ts os (some d))
    (hp : vs.all (fun v => (lendL os v).isPure) = true := by simp [lendL, lendO, lookO, V.isPure])
    (ha : vs.map (fun v => (lendL os v).norm) = args := by simp [lendL, lendO, lookO, V.norm, encT_eq, encRule, encOrder, encChoice, encCell, norm_list, lst])
    (ht : vs.all (fun v => v.toks.isEmpty) = true := by simp [V.toks, K.toks]) (hr : r.scalar = false := by rfl) : callK P f vs [] K (some d) ts os ∨ X := by
  refine .inl ⟨hp, r, .inl (by simpa [ha] using hs), ?_⟩
  rw [if_neg (by simp [hr])]
  exact ⟨ht, hk⟩
end
end Go.Abs


set_option maxRecDepth 100000
namespace Go.Abs
theorem Qs : (((((((type_of% @q_wpLs_eq_2 ∧ (type_of% @q_wpL_eq_1 ∧ type_of% @q_exL_eq_1)) ∧ ((type_of% @q_insT_eq_1 ∧ type_of% @q_look_eq_1) ∧ (type_of% @lookT_here ∧ type_of% @lookT_next))) ∧ (((type_of% @q_wpLs_eq_1 ∧ type_of% @true_and) ∧ (type_of% @q_awl_eq_2 ∧ type_of% @q_AE_thenL_eq_1)) ∧ ((type_of% @q_putK_eq_1 ∧ type_of% @q_awl_eq_5) ∧ (type_of% @q_look_eq_2 ∧ type_of% @q_exL_eq_11)))) ∧ (((type_of% @q_vBin_eq_1 ∧ (type_of% @q_resV_eq_1 ∧ type_of% @q_awl_eq_6)) ∧ ((type_of% @q_learn_eq_1 ∧ type_of% @q_condK_eq_1) ∧ (type_of% @and_self ∧ type_of% @q_binV_eq_1))) ∧ (((type_of% @q_binInt_eq_3 ∧ type_of% @q_AOp_dst_eq_1) ∧ (type_of% @q_List_map_nil ∧ type_of% @q_mapT_eq_2)) ∧ ((type_of% @q_mapO_eq_1 ∧ type_of% @q_exL_eq_3) ∧ (type_of% @q_condB_eq_2 ∧ type_of% @q_AOp_dst_eq_10))))) ∧ ((((type_of% @q_List_map_cons ∧ (type_of% @q_Bool_not_false ∧ type_of% @q_awl_eq_10)) ∧ ((type_of% @q_endK_eq_2 ∧ type_of% @q_endL_eq_1) ∧ (type_of% @q_endV_eq_1 ∧ type_of% @q_resL_eq_1))) ∧ (((type_of% @q_resL_eq_2 ∧ type_of% @q_resX_eq_1) ∧ (type_of% @q_V_nrm_eq_1 ∧ type_of% @q_K_nrm_eq_1)) ∧ ((type_of% @q_V_owns_eq_1 ∧ type_of% @q_K_owns_eq_2) ∧ (type_of% @q_V_toNew_eq_1 ∧ type_of% @q_K_toNew_eq_1)))) ∧ ((((type_of% @q_condB_eq_1 ∧ type_of% @q_mapT_eq_1) ∧ (type_of% @q_exL_eq_28 ∧ type_of% @q_guardP_eq_2)) ∧ ((type_of% @q_exK_eq_1 ∧ type_of% @q_Bool_not_true) ∧ (type_of% @q_C_norm_eq_5 ∧ type_of% @q_C_norm_eq_6))) ∧ (((type_of% @q_exL_eq_27 ∧ type_of% @q_vExtr_eq_1) ∧ (type_of% @q_List_getElemQ_cons_zero ∧ type_of% @q_List_getElemQ_cons_succ)) ∧ ((type_of% @q_C_norm_eq_4 ∧ type_of% @q_vPick_eq_1) ∧ (type_of% @Nat.zero_add ∧ type_of% @q_exL_eq_15)))))) ∧ (((((type_of% @q_vUn_eq_1 ∧ (type_of% @q_mapC_eq_1 ∧ type_of% @q_lookO_eq_1)) ∧ ((type_of% @q_one_eq_2 ∧ type_of% @q_V_owns_eq_3) ∧ (type_of% @q_V_ownsL_eq_1 ∧ type_of% @q_V_ownsL_eq_2))) ∧ (((type_of% @q_V_toNew_eq_4 ∧ type_of% @q_V_toNewL_eq_1) ∧ (type_of% @q_V_toNewL_eq_2 ∧ type_of% @q_awl_eq_1)) ∧ ((type_of% @q_unV_eq_2 ∧ type_of% @q_cutInt_eq_8) ∧ (type_of% @Bool.false_eq_true ∧ type_of% @q_AE_thenL_eq_3)))) ∧ (((type_of% @decide_true ∧ (type_of% @q_V_nrm_eq_4 ∧ type_of% @q_V_nrmL_eq_1)) ∧ ((type_of% @q_V_nrmL_eq_2 ∧ type_of% @not_false_eq_true) ∧ (type_of% @decide_false ∧ type_of% @q_insO_eq_1))) ∧ (((type_of% @q_freeB_eq_1 ∧ type_of% @q_freeT_eq_1) ∧ (type_of% @q_freeT_eq_2 ∧ type_of% @q_freeO_eq_1)) ∧ ((type_of% @q_V_noRef_eq_1 ∧ type_of% @q_K_noRef_eq_1) ∧ (type_of% @Bool.and_true ∧ type_of% @Bool.or_true))))) ∧ ((((type_of% @q_binV_eq_2 ∧ (type_of% @q_AOp_dst_eq_28 ∧ type_of% @q_List_length_nil)) ∧ ((type_of% @q_exL_eq_31 ∧ type_of% @q_vLenS_eq_1) ∧ (type_of% @q_mapO_eq_2 ∧ type_of% @q_awl_eq_7))) ∧ (((type_of% @q_initT_eq_1 ∧ type_of% @q_initT_eq_2) ∧ (type_of% @q_V_noRef_eq_4 ∧ type_of% @q_V_noRefL_eq_1)) ∧ ((type_of% @q_V_noRefL_eq_2 ∧ type_of% @q_putDL_eq_1) ∧ (type_of% @q_freeO_eq_2 ∧ type_of% @q_K_noRef_eq_2)))) ∧ ((((type_of% @q_O_noRef_eq_2 ∧ type_of% @q_K_nrm_eq_3) ∧ (type_of% @q_O_nrm_eq_2 ∧ type_of% @lookO_here)) ∧ ((type_of% @q_exL_eq_2 ∧ type_of% @q_guardP_eq_1) ∧ (type_of% @q_C_normRows_eq_1 ∧ type_of% @Int.toNat_natCast))) ∧ (((type_of% @Int.natCast_nonneg ∧ type_of% @q_cutInt_eq_10) ∧ (type_of% @q_isArrO_eq_1 ∧ type_of% @q_K_owns_eq_1)) ∧ ((type_of% @q_K_toNew_eq_2 ∧ type_of% @q_vPick_eq_2) ∧ (type_of% @q_V_nrm_eq_5 ∧ type_of% @q_one_eq_1))))))) ∧ ((((((type_of% @q_cutInt_eq_6 ∧ (type_of% @q_cutInt_eq_1 ∧ type_of% @norm_lst)) ∧ ((type_of% @q_List_length_cons ∧ type_of% @q_cutInt_eq_7) ∧ (type_of% @q_AOp_dst_eq_24 ∧ type_of% @q_exL_eq_30))) ∧ (((type_of% @r_vLen_lst ∧ type_of% @q_AE_inBlockL_eq_1) ∧ (type_of% @normRows_ints ∧ type_of% @q_binStr_eq_1)) ∧ ((type_of% @q_awl_eq_9 ∧ type_of% @q_AE_thenL_eq_2) ∧ (type_of% @q_AE_inBlockL_eq_2 ∧ type_of% @Bool.true_and)))) ∧ (((type_of% @Bool.false_or ∧ (type_of% @q_cutInt_eq_4 ∧ type_of% @q_exL_eq_25)) ∧ ((type_of% @q_vSidx_eq_1 ∧ type_of% @Bool.true_or) ∧ (type_of% @q_regN_eq_2 ∧ type_of% @q_V_reg_eq_3))) ∧ (((type_of% @q_V_reg_eq_4 ∧ type_of% @q_V_regL_eq_1) ∧ (type_of% @q_V_regL_eq_2 ∧ type_of% @q_freesL_eq_1)) ∧ ((type_of% @q_addsL_eq_1 ∧ type_of% @q_regK_eq_1) ∧ (type_of% @q_retK_eq_2 ∧ type_of% @Nat.add_zero))))) ∧ ((((type_of% @q_AOp_dst_eq_32 ∧ (type_of% @ints_len ∧ type_of% @q_binStr_eq_3)) ∧ ((type_of% @q_cutInt_eq_11 ∧ type_of% @q_C_normRow_eq_1) ∧ (type_of% @q_AOp_dst_eq_3 ∧ type_of% @q_List_replicate_zero))) ∧ (((type_of% @q_C_norm_eq_3 ∧ type_of% @Int.cast_ofNat_Int) ∧ (type_of% @q_AE_inBlockL_eq_3 ∧ type_of% @q_vBound_eq_2)) ∧ ((type_of% @q_cutS_eq_1 ∧ type_of% @q_vSlstr_eq_1) ∧ (type_of% @q_Option_map_some ∧ type_of% @q_V_noRef_eq_5)))) ∧ ((((type_of% @q_exL_eq_7 ∧ type_of% @q_vLits_eq_1) ∧ (type_of% @q_bsK_eq_1 ∧ type_of% @q_List_foldl_nil)) ∧ ((type_of% @q_List_getD_cons_zero ∧ type_of% @Int.toNat_zero) ∧ (type_of% @q_exL_eq_20 ∧ type_of% @q_vPick_eq_3))) ∧ (((type_of% @q_vRow_eq_1 ∧ type_of% @q_vLits_eq_2) ∧ (type_of% @q_List_foldl_cons ∧ type_of% @q_List_replicate_succ)) ∧ ((type_of% @q_List_set_cons_zero ∧ type_of% @or_false) ∧ (type_of% @q_binStr_eq_2 ∧ type_of% @q_partV_eq_2)))))) ∧ (((((type_of% @q_vLoad_eq_2 ∧ (type_of% @Nat.le_refl ∧ type_of% @r_vIaddr_lst)) ∧ ((type_of% @q_List_nil_append ∧ type_of% @q_List_cons_append) ∧ (type_of% @q_cutInt_eq_9 ∧ type_of% @q_wpLQs_eq_1))) ∧ (((type_of% @q_wpLQs_eq_2 ∧ type_of% @q_wpLQ_eq_1) ∧ (type_of% @q_exLQ_eq_1 ∧ type_of% @q_awl_eq_3)) ∧ ((type_of% @q_cutInt_eq_5 ∧ type_of% @q_unV_eq_1) ∧ (type_of% @q_List_take_succ_cons ∧ type_of% @q_guardP_eq_3)))) ∧ ((((type_of% @q_vBound_eq_1 ∧ type_of% @q_Option_map_none) ∧ (type_of% @q_exL_eq_16 ∧ type_of% @q_cutInt_eq_2)) ∧ ((type_of% @q_vConv_eq_1 ∧ type_of% @q_exL_eq_33) ∧ (type_of% @q_nlApp_eq_2 ∧ type_of% @q_srcO_eq_1))) ∧ (((type_of% @q_srcV_eq_2 ∧ type_of% @q_appK_eq_1) ∧ (type_of% @q_appendK_eq_1 ∧ type_of% @q_delO_eq_1)) ∧ ((type_of% @q_delO_eq_2 ∧ type_of% @q_V_scrub_eq_1) ∧ (type_of% @q_V_scrub_eq_5 ∧ type_of% @q_K_scrub_eq_1))))) ∧ ((((type_of% @q_K_scrub_eq_5 ∧ (type_of% @q_O_scrub_eq_2 ∧ type_of% @Bool.and_eq_true)) ∧ ((type_of% @lookO_next ∧ type_of% @q_AOp_dst_eq_11) ∧ (type_of% @q_exL_eq_12 ∧ type_of% @q_vBinB_eq_1))) ∧ (((type_of% @q_K_nrm_eq_2 ∧ type_of% @condB_beq) ∧ (type_of% @q_exL_eq_8 ∧ type_of% @q_exL_eq_23)) ∧ ((type_of% @q_exLQ_eq_9 ∧ type_of% @q_exLQ_eq_12) ∧ (type_of% @q_exLQ_eq_24 ∧ type_of% @q_cutInt_eq_3)))) ∧ ((((type_of% @q_exLQ_eq_21 ∧ type_of% @q_List_drop_zero) ∧ (type_of% @false_implies ∧ type_of% @q_exL_eq_18)) ∧ ((type_of% @q_mkslK_eq_1 ∧ type_of% @q_exL_eq_29) ∧ (type_of% @q_AOp_dst_eq_14 ∧ type_of% @q_AOp_dst_eq_7))) ∧ (((type_of% @q_List_set_cons_succ ∧ type_of% @condB_bne) ∧ (type_of% @condB_not ∧ type_of% @q_AOp_dst_eq_27)) ∧ ((type_of% @q_AOp_dst_eq_8 ∧ type_of% @q_AOp_dst_eq_22) ∧ (type_of% @q_C_normRow_eq_2 ∧ type_of% @q_C_normRows_eq_2)))))))) := ⟨⟨⟨⟨⟨⟨⟨@q_wpLs_eq_2, ⟨@q_wpL_eq_1, @q_exL_eq_1⟩⟩, ⟨⟨@q_insT_eq_1, @q_look_eq_1⟩, ⟨@lookT_here, @lookT_next⟩⟩⟩, ⟨⟨⟨@q_wpLs_eq_1, @true_and⟩, ⟨@q_awl_eq_2, @q_AE_thenL_eq_1⟩⟩, ⟨⟨@q_putK_eq_1, @q_awl_eq_5⟩, ⟨@q_look_eq_2, @q_exL_eq_11⟩⟩⟩⟩, ⟨⟨⟨@q_vBin_eq_1, ⟨@q_resV_eq_1, @q_awl_eq_6⟩⟩, ⟨⟨@q_learn_eq_1, @q_condK_eq_1⟩, ⟨@and_self, @q_binV_eq_1⟩⟩⟩, ⟨⟨⟨@q_binInt_eq_3, @q_AOp_dst_eq_1⟩, ⟨@q_List_map_nil, @q_mapT_eq_2⟩⟩, ⟨⟨@q_mapO_eq_1, @q_exL_eq_3⟩, ⟨@q_condB_eq_2, @q_AOp_dst_eq_10⟩⟩⟩⟩⟩, ⟨⟨⟨⟨@q_List_map_cons, ⟨@q_Bool_not_false, @q_awl_eq_10⟩⟩, ⟨⟨@q_endK_eq_2, @q_endL_eq_1⟩, ⟨@q_endV_eq_1, @q_resL_eq_1⟩⟩⟩, ⟨⟨⟨@q_resL_eq_2, @q_resX_eq_1⟩, ⟨@q_V_nrm_eq_1, @q_K_nrm_eq_1⟩⟩, ⟨⟨@q_V_owns_eq_1, @q_K_owns_eq_2⟩, ⟨@q_V_toNew_eq_1, @q_K_toNew_eq_1⟩⟩⟩⟩, ⟨⟨⟨⟨@q_condB_eq_1, @q_mapT_eq_1⟩, ⟨@q_exL_eq_28, @q_guardP_eq_2⟩⟩, ⟨⟨@q_exK_eq_1, @q_Bool_not_true⟩, ⟨@q_C_norm_eq_5, @q_C_norm_eq_6⟩⟩⟩, ⟨⟨⟨@q_exL_eq_27, @q_vExtr_eq_1⟩, ⟨@q_List_getElemQ_cons_zero, @q_List_getElemQ_cons_succ⟩⟩, ⟨⟨@q_C_norm_eq_4, @q_vPick_eq_1⟩, ⟨@Nat.zero_add, @q_exL_eq_15⟩⟩⟩⟩⟩⟩, ⟨⟨⟨⟨⟨@q_vUn_eq_1, ⟨@q_mapC_eq_1, @q_lookO_eq_1⟩⟩, ⟨⟨@q_one_eq_2, @q_V_owns_eq_3⟩, ⟨@q_V_ownsL_eq_1, @q_V_ownsL_eq_2⟩⟩⟩, ⟨⟨⟨@q_V_toNew_eq_4, @q_V_toNewL_eq_1⟩, ⟨@q_V_toNewL_eq_2, @q_awl_eq_1⟩⟩, ⟨⟨@q_unV_eq_2, @q_cutInt_eq_8⟩, ⟨@Bool.false_eq_true, @q_AE_thenL_eq_3⟩⟩⟩⟩, ⟨⟨⟨@decide_true, ⟨@q_V_nrm_eq_4, @q_V_nrmL_eq_1⟩⟩, ⟨⟨@q_V_nrmL_eq_2, @not_false_eq_true⟩, ⟨@decide_false, @q_insO_eq_1⟩⟩⟩, ⟨⟨⟨@q_freeB_eq_1, @q_freeT_eq_1⟩, ⟨@q_freeT_eq_2, @q_freeO_eq_1⟩⟩, ⟨⟨@q_V_noRef_eq_1, @q_K_noRef_eq_1⟩, ⟨@Bool.and_true, @Bool.or_true⟩⟩⟩⟩⟩, ⟨⟨⟨⟨@q_binV_eq_2, ⟨@q_AOp_dst_eq_28, @q_List_length_nil⟩⟩, ⟨⟨@q_exL_eq_31, @q_vLenS_eq_1⟩, ⟨@q_mapO_eq_2, @q_awl_eq_7⟩⟩⟩, ⟨⟨⟨@q_initT_eq_1, @q_initT_eq_2⟩, ⟨@q_V_noRef_eq_4, @q_V_noRefL_eq_1⟩⟩, ⟨⟨@q_V_noRefL_eq_2, @q_putDL_eq_1⟩, ⟨@q_freeO_eq_2, @q_K_noRef_eq_2⟩⟩⟩⟩, ⟨⟨⟨⟨@q_O_noRef_eq_2, @q_K_nrm_eq_3⟩, ⟨@q_O_nrm_eq_2, @lookO_here⟩⟩, ⟨⟨@q_exL_eq_2, @q_guardP_eq_1⟩, ⟨@q_C_normRows_eq_1, @Int.toNat_natCast⟩⟩⟩, ⟨⟨⟨@Int.natCast_nonneg, @q_cutInt_eq_10⟩, ⟨@q_isArrO_eq_1, @q_K_owns_eq_1⟩⟩, ⟨⟨@q_K_toNew_eq_2, @q_vPick_eq_2⟩, ⟨@q_V_nrm_eq_5, @q_one_eq_1⟩⟩⟩⟩⟩⟩⟩, ⟨⟨⟨⟨⟨⟨@q_cutInt_eq_6, ⟨@q_cutInt_eq_1, @norm_lst⟩⟩, ⟨⟨@q_List_length_cons, @q_cutInt_eq_7⟩, ⟨@q_AOp_dst_eq_24, @q_exL_eq_30⟩⟩⟩, ⟨⟨⟨@r_vLen_lst, @q_AE_inBlockL_eq_1⟩, ⟨@normRows_ints, @q_binStr_eq_1⟩⟩, ⟨⟨@q_awl_eq_9, @q_AE_thenL_eq_2⟩, ⟨@q_AE_inBlockL_eq_2, @Bool.true_and⟩⟩⟩⟩, ⟨⟨⟨@Bool.false_or, ⟨@q_cutInt_eq_4, @q_exL_eq_25⟩⟩, ⟨⟨@q_vSidx_eq_1, @Bool.true_or⟩, ⟨@q_regN_eq_2, @q_V_reg_eq_3⟩⟩⟩, ⟨⟨⟨@q_V_reg_eq_4, @q_V_regL_eq_1⟩, ⟨@q_V_regL_eq_2, @q_freesL_eq_1⟩⟩, ⟨⟨@q_addsL_eq_1, @q_regK_eq_1⟩, ⟨@q_retK_eq_2, @Nat.add_zero⟩⟩⟩⟩⟩, ⟨⟨⟨⟨@q_AOp_dst_eq_32, ⟨@ints_len, @q_binStr_eq_3⟩⟩, ⟨⟨@q_cutInt_eq_11, @q_C_normRow_eq_1⟩, ⟨@q_AOp_dst_eq_3, @q_List_replicate_zero⟩⟩⟩, ⟨⟨⟨@q_C_norm_eq_3, @Int.cast_ofNat_Int⟩, ⟨@q_AE_inBlockL_eq_3, @q_vBound_eq_2⟩⟩, ⟨⟨@q_cutS_eq_1, @q_vSlstr_eq_1⟩, ⟨@q_Option_map_some, @q_V_noRef_eq_5⟩⟩⟩⟩, ⟨⟨⟨⟨@q_exL_eq_7, @q_vLits_eq_1⟩, ⟨@q_bsK_eq_1, @q_List_foldl_nil⟩⟩, ⟨⟨@q_List_getD_cons_zero, @Int.toNat_zero⟩, ⟨@q_exL_eq_20, @q_vPick_eq_3⟩⟩⟩, ⟨⟨⟨@q_vRow_eq_1, @q_vLits_eq_2⟩, ⟨@q_List_foldl_cons, @q_List_replicate_succ⟩⟩, ⟨⟨@q_List_set_cons_zero, @or_false⟩, ⟨@q_binStr_eq_2, @q_partV_eq_2⟩⟩⟩⟩⟩⟩, ⟨⟨⟨⟨⟨@q_vLoad_eq_2, ⟨@Nat.le_refl, @r_vIaddr_lst⟩⟩, ⟨⟨@q_List_nil_append, @q_List_cons_append⟩, ⟨@q_cutInt_eq_9, @q_wpLQs_eq_1⟩⟩⟩, ⟨⟨⟨@q_wpLQs_eq_2, @q_wpLQ_eq_1⟩, ⟨@q_exLQ_eq_1, @q_awl_eq_3⟩⟩, ⟨⟨@q_cutInt_eq_5, @q_unV_eq_1⟩, ⟨@q_List_take_succ_cons, @q_guardP_eq_3⟩⟩⟩⟩, ⟨⟨⟨⟨@q_vBound_eq_1, @q_Option_map_none⟩, ⟨@q_exL_eq_16, @q_cutInt_eq_2⟩⟩, ⟨⟨@q_vConv_eq_1, @q_exL_eq_33⟩, ⟨@q_nlApp_eq_2, @q_srcO_eq_1⟩⟩⟩, ⟨⟨⟨@q_srcV_eq_2, @q_appK_eq_1⟩, ⟨@q_appendK_eq_1, @q_delO_eq_1⟩⟩, ⟨⟨@q_delO_eq_2, @q_V_scrub_eq_1⟩, ⟨@q_V_scrub_eq_5, @q_K_scrub_eq_1⟩⟩⟩⟩⟩, ⟨⟨⟨⟨@q_K_scrub_eq_5, ⟨@q_O_scrub_eq_2, @Bool.and_eq_true⟩⟩, ⟨⟨@lookO_next, @q_AOp_dst_eq_11⟩, ⟨@q_exL_eq_12, @q_vBinB_eq_1⟩⟩⟩, ⟨⟨⟨@q_K_nrm_eq_2, @condB_beq⟩, ⟨@q_exL_eq_8, @q_exL_eq_23⟩⟩, ⟨⟨@q_exLQ_eq_9, @q_exLQ_eq_12⟩, ⟨@q_exLQ_eq_24, @q_cutInt_eq_3⟩⟩⟩⟩, ⟨⟨⟨⟨@q_exLQ_eq_21, @q_List_drop_zero⟩, ⟨@false_implies, @q_exL_eq_18⟩⟩, ⟨⟨@q_mkslK_eq_1, @q_exL_eq_29⟩, ⟨@q_AOp_dst_eq_14, @q_AOp_dst_eq_7⟩⟩⟩, ⟨⟨⟨@q_List_set_cons_succ, @condB_bne⟩, ⟨@condB_not, @q_AOp_dst_eq_27⟩⟩, ⟨⟨@q_AOp_dst_eq_8, @q_AOp_dst_eq_22⟩, ⟨@q_C_normRow_eq_2, @q_C_normRows_eq_2⟩⟩⟩⟩⟩⟩⟩⟩
end Go.Abs


namespace Go.Abs
section
variable {P : Program}
theorem shape_int {n : Nat} {t : TypeId} {r : List C} {k : IntKind} (hu : P.underlying t = some (.int k)) (h : Shape P n t r) : ∃ m : Int, r = [.int k m] ∧ (Lit.int k m).wf = true := by
  cases n with
  | zero => exact h.elim
  | succ n => simp only [Shape, hu] at h; exact h
theorem shape_str {n : Nat} {t : TypeId} {r : List C} (hu : P.underlying t = some .string) (h : Shape P n t r) : ∃ s : List UInt8, r = [.str s] ∧ s.length ≤ 9223372036854775807 := by
  cases n with
  | zero => exact h.elim
  | succ n => simp only [Shape, hu] at h; exact h
theorem shape_slice {n : Nat} {t e : TypeId} {r : List C} (hu : P.underlying t = some (.slice e)) (h : Shape P n t r) : ∃ m rows, n = m + 1 ∧ r = [lstC (P.cellsOf e) rows] ∧ rows.length ≤ 9223372036854775807 ∧ ∀ x ∈ rows, Shape P m e x := by
  cases n with
  | zero => exact h.elim
  | succ n => simp only [Shape, hu] at h; obtain ⟨rows, h1, h2, h3⟩ := h; exact ⟨n, rows, rfl, h1, h2, h3⟩
theorem rows_of {α : Type} {S : List C → Prop} (enc : α → List C) (hS : ∀ r, S r → ∃ a, r = enc a) : ∀ (rows : List (List C)), (∀ r ∈ rows, S r) → ∃ l : List α, rows = l.map enc
  | [], _ => ⟨[], rfl⟩
  | r :: rows, h => by
    obtain ⟨a, ha⟩ := hS r (h r (by simp))
    obtain ⟨l, hl⟩ := rows_of enc hS rows (fun x hx => h x (by simp [hx]))
    exact ⟨a :: l, by rw [ha, hl]; rfl⟩
variable {tI tB tS tT tLT tR tLR tC tLC tO : TypeId}
end
end Go.Abs


namespace Go.Abs
section
variable {P : Program}
end
end Go.Abs


set_option maxRecDepth 10000
namespace Go.Wire
open Go.Lib
abbrev Txt := List UInt8
theorem dg_toNat {d : Nat} (h : d < 10) : (UInt8.ofNat (48 + d)).toNat = 48 + d := by
  rw [UInt8.toNat_ofNat']; omega
theorem dec_small {u : Nat} (h : u < 10) : decDigits u = [UInt8.ofNat (48 + u)] := by rw [decDigits, dif_pos h]
theorem dec_big {u : Nat} (h : ¬ u < 10) : decDigits u = decDigits (u / 10) ++ [UInt8.ofNat (48 + u % 10)] := by rw [decDigits, dif_neg h]
theorem dec_dig (u : Nat) : ∀ c, c ∈ decDigits u → 48 ≤ c.toNat ∧ c.toNat ≤ 57 := by
  induction u using Nat.strongRecOn with
  | _ u ih =>
    intro c hc
    by_cases h : u < 10
    · rw [dec_small h, List.mem_singleton] at hc
      subst hc
      rw [dg_toNat h]; omega
    · rw [dec_big h, List.mem_append, List.mem_singleton] at hc
      rcases hc with hc | rfl
      · exact ih (u / 10) (by omega) c hc
      · rw [dg_toNat (by omega)]; omega
theorem dec_ne (u : Nat) : decDigits u ≠ [] := by
  by_cases h : u < 10
  · rw [dec_small h]; simp
  · rw [dec_big h]; simp
theorem dec_len : ∀ (k u : Nat), u < 10 ^ (k + 1) → (decDigits u).length ≤ k + 1
  | 0, u, h => by rw [dec_small (by simpa using h)]; simp
  | k + 1, u, h => by
    by_cases h10 : u < 10
    · rw [dec_small h10]; simp
    · rw [dec_big h10, List.length_append]
      have := dec_len k (u / 10) (by rw [Nat.pow_succ] at h; omega)
      simp only [List.length_singleton]; omega
theorem parse_append : ∀ (l1 l2 : Txt) (acc u : Nat), parseUint10 acc l1 = .ok u → parseUint10 acc (l1 ++ l2) = parseUint10 u l2
  | [], l2, acc, u, h => by
    simp only [parseUint10] at h
    injection h with h
    rw [h]; rfl
  | c :: r, l2, acc, u, h => by
    simp only [parseUint10] at h
    simp only [List.cons_append, parseUint10]
    split at h
    · rename_i h1
      rw [if_pos h1]
      split at h
      · cases h
      · rename_i h2
        rw [if_neg h2]
        split at h
        · cases h
        · rename_i h3
          rw [if_neg h3]
          exact parse_append r l2 _ u h
    · cases h
theorem parse_one {acc d : Nat} (hd : d < 10) (h : acc * 10 + d < 18446744073709551616) : parseUint10 acc [UInt8.ofNat (48 + d)] = .ok (acc * 10 + d) := by
  simp only [parseUint10, dg_toNat hd]
  rw [if_pos (by omega), if_neg (by omega), if_neg (by omega)]
  congr 1; omega
theorem parse_dec (u : Nat) (hu : u < 18446744073709551616) : parseUint10 0 (decDigits u) = .ok u := by
  induction u using Nat.strongRecOn with
  | _ u ih =>
    by_cases h : u < 10
    · rw [dec_small h, parse_one h (by omega)]; congr 1; omega
    · rw [dec_big h, parse_append _ _ 0 (u / 10) (ih (u / 10) (by omega) (by omega)), parse_one (by omega) (by omega)]
      congr 1; omega
def inI (n : Int) : Prop := -9223372036854775808 ≤ n ∧ n ≤ 9223372036854775807
theorem mag_dec (u : Nat) (hu : u < 18446744073709551616) : parseMag (decDigits u) = .ok u := by
  rw [parseMag, if_neg (dec_ne u), parse_dec u hu]
theorem atoi_itoa {n : Int} (h : inI n) : atoiAll (itoa n) = .ok n := by
  unfold itoa
  by_cases hn : n < 0
  · rw [if_pos hn]
    have h1 := mag_dec n.natAbs (by have := h.1; omega)
    have e45 : (45 : UInt8).toNat = 45 := rfl
    have h2 := h.1
    simp only [atoiAll, e45, true_or, or_true, if_true, h1]
    rw [if_neg (by simp), if_neg (by omega)]
    congr 1; omega
  · rw [if_neg hn]
    have h1 := mag_dec n.toNat (by have := h.2; omega)
    have hd := dec_dig n.toNat
    have h2 := h.2
    cases hl : decDigits n.toNat with
    | nil => exact absurd hl (dec_ne _)
    | cons c r =>
      rw [hl] at h1 hd
      have hc := hd c (by simp)
      have e1 : ¬ c.toNat = 43 := by omega
      have e2 : ¬ c.toNat = 45 := by omega
      simp only [atoiAll, e1, e2, or_self, if_false, h1, not_false_eq_true, true_and, false_and]
      rw [if_neg (by omega)]
      congr 1; omega
theorem atoi_in {l : Txt} {n : Int} (h : atoiAll l = .ok n) : inI n := by
  unfold atoiAll at h
  split at h
  · cases h
  · simp only [] at h
    split at h
    · cases h
    · cases h
    · rename_i u _
      split at h
      · cases h
      · rename_i a1
        split at h
        · cases h
        · rename_i a2
          injection h with h
          subst h
          unfold inI
          split
          · rename_i a3
            simp only [a3, true_and] at a2
            omega
          · rename_i a3
            simp only [a3, not_false_eq_true, true_and] at a1
            omega
theorem itoa_semi (n : Int) : ∀ c, c ∈ itoa n → c ≠ 59 := by
  intro c hc
  have : c.toNat = 45 ∨ 48 ≤ c.toNat ∧ c.toNat ≤ 57 := by
    unfold itoa at hc
    split at hc
    · rcases List.mem_cons.1 hc with rfl | hc
      · exact .inl rfl
      · exact .inr (dec_dig _ c hc)
    · exact .inr (dec_dig _ c hc)
  intro e
  subst e
  have e59 : (59 : UInt8).toNat = 59 := rfl
  omega
theorem itoa_len {n : Int} (h : inI n) : 1 ≤ (itoa n).length ∧ (itoa n).length ≤ 20 := by
  obtain ⟨h1, h2⟩ := h
  unfold itoa
  split
  · have := dec_len 18 n.natAbs (by omega)
    simp only [List.length_cons]; omega
  · have := dec_len 18 n.toNat (by omega)
    have h3 := List.length_pos_iff.2 (dec_ne n.toNat)
    omega
def wI (n : Int) : Txt := itoa n ++ [59]
def rI (s : Txt) : Option (Int × Txt) :=
  if (59 : UInt8) ∈ s.take 21 then
    match atoiAll ((s.take 21).takeWhile fun c => decide (c ≠ 59)) with
    | .ok n => if itoa n = (s.take 21).takeWhile (fun c => decide (c ≠ 59)) then some (n, s.drop ((itoa n).length + 1)) else none
    | _ => none
  else none
theorem cut_at {t : Txt} (h : (59 : UInt8) ∈ t) : ∃ r, t = t.takeWhile (fun c => decide (c ≠ 59)) ++ 59 :: r := by
  induction t with
  | nil => cases h
  | cons c t ih =>
    by_cases hc : c = 59
    · subst hc; exact ⟨t, by simp⟩
    · obtain ⟨r, hr⟩ := ih ((List.mem_cons.1 h).resolve_left (fun e => hc e.symm))
      refine ⟨r, ?_⟩
      rw [List.takeWhile_cons_of_pos (by simpa using hc), List.cons_append, ← hr]
theorem while_app {l r : Txt} (h : ∀ c, c ∈ l → c ≠ 59) : (l ++ 59 :: r).takeWhile (fun c => decide (c ≠ 59)) = l := by
  induction l with
  | nil => simp
  | cons c l ih =>
    rw [List.cons_append, List.takeWhile_cons_of_pos (by simpa using h c (by simp)), ih (fun x hx => h x (by simp [hx]))]
theorem rI_write {n : Int} (h : inI n) (r : Txt) : rI (wI n ++ r) = some (n, r) := by
  have hl := itoa_len h
  have e : (wI n ++ r).take 21 = itoa n ++ 59 :: (r.take (20 - (itoa n).length)) := by
    rw [wI, List.append_assoc, List.singleton_append, List.take_append, List.take_of_length_le (by omega)]
    congr 1
    obtain ⟨k, hk⟩ : ∃ k, 21 - (itoa n).length = k + 1 := ⟨20 - (itoa n).length, by omega⟩
    rw [hk, List.take_succ_cons]
    congr 2; omega
  have hw : ((wI n ++ r).take 21).takeWhile (fun c => decide (c ≠ 59)) = itoa n := by rw [e]; exact while_app (itoa_semi n)
  unfold rI
  rw [hw, if_pos (by rw [e]; simp), atoi_itoa h]
  simp only [if_true]
  congr 2
  rw [wI, List.append_assoc, List.drop_append]
  simp
theorem rI_some {s r : Txt} {n : Int} (h : rI s = some (n, r)) : inI n ∧ s = wI n ++ r := by
  unfold rI at h
  split at h
  · rename_i hm
    split at h
    · rename_i m hat
      split at h
      · rename_i hit
        cases h
        refine ⟨atoi_in hat, ?_⟩
        obtain ⟨q, hq⟩ := cut_at hm
        rw [← hit] at hq
        have e : s = itoa n ++ 59 :: (q ++ s.drop 21) := by
          rw [← List.cons_append, ← List.append_assoc, ← hq, List.take_append_drop]
        conv => rhs; rw [e]
        rw [wI, List.append_assoc, List.drop_append]
        conv => lhs; rw [e]
        simp
      · cases h
    · cases h
  · cases h
theorem rI_iff {s r : Txt} {n : Int} : rI s = some (n, r) ↔ inI n ∧ s = wI n ++ r :=
  ⟨rI_some, fun h => by rw [h.2]; exact rI_write h.1 r⟩
end Go.Wire


set_option maxRecDepth 10000
namespace Go.Wire
open Go.Lib
def Reads {α : Type} (w : α → Txt) (R : Txt → Option (α × Txt)) (ok : α → Prop) : Prop := ∀ s x r, R s = some (x, r) ↔ ok x ∧ s = w x ++ r
section
variable {α : Type} {w : α → Txt} {R : Txt → Option (α × Txt)} {ok : α → Prop}
theorem Reads.back (h : Reads w R ok) {x : α} (hx : ok x) (r : Txt) : R (w x ++ r) = some (x, r) := (h _ _ _).2 ⟨hx, rfl⟩
theorem Reads.uniq (h : Reads w R ok) {x y : α} {r q : Txt} (hx : ok x) (hy : ok y) (e : w x ++ r = w y ++ q) : x = y ∧ r = q := by
  have h1 := h.back hx r
  rw [e, h.back hy q] at h1
  cases h1
  exact ⟨rfl, rfl⟩
theorem Reads.inj (h : Reads w R ok) {x y : α} (hx : ok x) (hy : ok y) (e : w x = w y) : x = y := (h.uniq (r := []) (q := []) hx hy (by rw [e])).1
theorem Reads.cut (h : Reads w R ok) {x : α} (hx : ok x) {k : Nat} (hk : k < (w x).length) : R ((w x).take k) = none := by
  cases hr : R ((w x).take k) with
  | none => rfl
  | some p =>
    obtain ⟨y, r⟩ := p
    obtain ⟨hy, e⟩ := (h _ _ _).1 hr
    have e2 : w x ++ [] = w y ++ (r ++ (w x).drop k) := by
      rw [List.append_nil, ← List.append_assoc, ← e, List.take_append_drop]
    have h2 := (h.uniq hx hy e2).2
    have h3 : ((w x).drop k).length = 0 := by
      have := congrArg List.length h2
      simp only [List.length_nil, List.length_append] at this
      omega
    rw [List.length_drop] at h3
    omega
end
theorem reads_I : Reads wI rI inI := fun _ _ _ => rI_iff
def wS (s : Txt) : Txt := wI s.length ++ s
def rS (s : Txt) : Option (Txt × Txt) := (rI s).bind fun p => if p.1 < 0 ∨ p.1 > p.2.length then none else some (p.2.take p.1.toNat, p.2.drop p.1.toNat)
def okS (s : Txt) : Prop := s.length ≤ 9223372036854775807
theorem reads_S : Reads wS rS okS := by
  intro s x r
  constructor
  · intro h
    unfold rS at h
    cases hr : rI s with
    | none => rw [hr] at h; cases h
    | some p =>
      obtain ⟨n, q⟩ := p
      rw [hr] at h
      simp only [Option.bind_some] at h
      split at h
      · cases h
      · rename_i hc
        cases h
        obtain ⟨⟨h1, h2⟩, e⟩ := rI_some hr
        have hl : (q.take n.toNat).length = n.toNat := by rw [List.length_take]; omega
        have hn : ((q.take n.toNat).length : Int) = n := by rw [hl]; omega
        refine ⟨by unfold okS; omega, ?_⟩
        rw [wS, hn, List.append_assoc, List.take_append_drop]
        exact e
  · rintro ⟨h1, rfl⟩
    unfold okS at h1
    unfold rS
    have e : wS x ++ r = wI x.length ++ (x ++ r) := by rw [wS, List.append_assoc]
    rw [e, rI_write ⟨by omega, by omega⟩]
    simp only [Option.bind_some]
    rw [if_neg (by simp only [List.length_append]; omega)]
    simp
theorem wI_len {n : Int} (h : inI n) : 2 ≤ (wI n).length := by
  have := itoa_len h
  rw [wI, List.length_append, List.length_singleton]; omega
theorem wS_len {s : Txt} (h : okS s) : 2 ≤ (wS s).length := by
  unfold okS at h
  have := wI_len (n := s.length) ⟨by omega, by omega⟩
  rw [wS, List.length_append]; omega
def wN {α : Type} (w : α → Txt) (l : List α) : Txt := (l.map w).flatten
def wL {α : Type} (w : α → Txt) (l : List α) : Txt := wI l.length ++ wN w l
def rN {α : Type} (R : Txt → Option (α × Txt)) : Nat → Txt → Option (List α × Txt)
  | 0, s => some ([], s)
  | k + 1, s => (R s).bind fun p => (rN R k p.2).bind fun q => some (p.1 :: q.1, q.2)
def rL {α : Type} (R : Txt → Option (α × Txt)) (s : Txt) : Option (List α × Txt) := (rI s).bind fun p => if p.1 < 0 ∨ p.1 > (p.2.length / 2 : Nat) then none else rN R p.1.toNat p.2
section
variable {α : Type} {w : α → Txt} {R : Txt → Option (α × Txt)} {ok : α → Prop}
theorem reads_N (h : Reads w R ok) : ∀ (k : Nat) (s : Txt) (l : List α) (r : Txt), rN R k s = some (l, r) ↔ l.length = k ∧ (∀ x, x ∈ l → ok x) ∧ s = wN w l ++ r
  | 0, s, l, r => by
    simp only [rN, Option.some.injEq, Prod.mk.injEq]
    constructor
    · rintro ⟨rfl, rfl⟩
      exact ⟨rfl, (fun _ h => nomatch h), rfl⟩
    · rintro ⟨h1, _, h3⟩
      obtain rfl := List.length_eq_zero_iff.1 h1
      exact ⟨rfl, h3⟩
  | k + 1, s, l, r => by
    simp only [rN]
    constructor
    · intro h1
      cases hr : R s with
      | none => rw [hr] at h1; cases h1
      | some p =>
        obtain ⟨x, a⟩ := p
        rw [hr] at h1
        simp only [Option.bind_some] at h1
        cases hn : rN R k a with
        | none => rw [hn] at h1; cases h1
        | some q =>
          obtain ⟨l', b⟩ := q
          rw [hn] at h1
          simp only [Option.bind_some, Option.some.injEq, Prod.mk.injEq] at h1
          obtain ⟨rfl, rfl⟩ := h1
          obtain ⟨g1, g2⟩ := (h _ _ _).1 hr
          obtain ⟨g3, g4, g5⟩ := (reads_N h k a l' b).1 hn
          refine ⟨by simp [g3], fun y hy => ?_, by rw [g2, g5]; simp [wN]⟩
          rcases List.mem_cons.1 hy with rfl | hy
          · exact g1
          · exact g4 y hy
    · rintro ⟨h1, h2, rfl⟩
      cases l with
      | nil => cases h1
      | cons x l =>
        have e : wN w (x :: l) ++ r = w x ++ (wN w l ++ r) := by simp [wN]
        rw [e, h.back (h2 x (by simp))]
        simp only [Option.bind_some]
        rw [(reads_N h k _ l r).2 ⟨by simpa using h1, fun y hy => h2 y (by simp [hy]), rfl⟩]
        rfl
def okL (ok : α → Prop) (l : List α) : Prop := l.length ≤ 9223372036854775807 ∧ ∀ x, x ∈ l → ok x
theorem wN_len (h2 : ∀ x, ok x → 2 ≤ (w x).length) : ∀ l : List α, (∀ x, x ∈ l → ok x) → 2 * l.length ≤ (wN w l).length
  | [], _ => by simp
  | x :: l, h => by
    have h1 := wN_len h2 l (fun y hy => h y (by simp [hy]))
    have h3 := h2 x (h x (by simp))
    have e : wN w (x :: l) = w x ++ wN w l := by simp [wN]
    rw [e, List.length_append, List.length_cons]; omega
theorem reads_L (h : Reads w R ok) (h2 : ∀ x, ok x → 2 ≤ (w x).length) : Reads (wL w) (rL R) (okL ok) := by
  intro s l r
  constructor
  · intro h1
    unfold rL at h1
    cases hr : rI s with
    | none => rw [hr] at h1; cases h1
    | some p =>
      obtain ⟨n, q⟩ := p
      rw [hr] at h1
      simp only [Option.bind_some] at h1
      split at h1
      · cases h1
      · rename_i hc
        obtain ⟨⟨g1, g2⟩, e⟩ := rI_some hr
        obtain ⟨g3, g4, g5⟩ := (reads_N h _ _ _ _).1 h1
        refine ⟨⟨by omega, g4⟩, ?_⟩
        have hn : (l.length : Int) = n := by rw [g3]; omega
        rw [wL, hn, List.append_assoc, ← g5]
        exact e
  · rintro ⟨⟨h3, h4⟩, rfl⟩
    unfold rL
    have e : wL w l ++ r = wI l.length ++ (wN w l ++ r) := by rw [wL, List.append_assoc]
    rw [e, rI_write ⟨by omega, by omega⟩]
    simp only [Option.bind_some]
    have h5 := wN_len h2 l h4
    rw [if_neg (by simp only [List.length_append]; omega)]
    exact (reads_N h _ _ _ _).2 ⟨by simp, h4, rfl⟩
end
theorem reads_Is : Reads (wL wI) (rL rI) (okL inI) := reads_L reads_I fun _ h => wI_len h
theorem reads_Ss : Reads (wL wS) (rL rS) (okL okS) := reads_L reads_S fun _ h => wS_len h
end Go.Wire


set_option maxRecDepth 10000
namespace Go.Wire
open Go.Lib
def putD : Nat → Nat → Txt → Txt
  | 0, _, out => out
  | k + 1, m, out => if m < 10 then UInt8.ofNat (48 + m) :: out else putD k (m / 10) (UInt8.ofNat (48 + m % 10) :: out)
def dv (c : UInt8) : Nat := c.toNat - 48
def val (a : Nat) (l : Txt) : Nat := l.foldl (fun a c => a * 10 + dv c) a
end Go.Wire


set_option maxRecDepth 100000
set_option maxHeartbeats 4000000
namespace Go.Abs
open Go.Proofs Go.Wire
def encS (s : Txt) : List C := [.str s]
@[simp] theorem normRow_encS (s : Txt) : C.normRow (encS s) = encS s := rfl
def strs (l : List Txt) : List (List C) := l.map encS
@[simp] theorem normRows_strs (l : List Txt) : C.normRows (strs l) = strs l := normRows_eq (fun _ => rfl) l
@[simp] theorem strs_len (l : List Txt) : (strs l).length = l.length := by simp [strs]
theorem strs_at {l : List Txt} {i : Nat} (h : i < l.length) : (strs l).getD i [] = [.str l[i]] := by simp [strs, encS, h]
@[simp] theorem strs_isEmpty (l : List Txt) : (strs l).isEmpty = l.isEmpty := by cases l <;> rfl
theorem strs_snoc (l : List Txt) (s : Txt) : strs l ++ [[.str s]] = strs (l ++ [s]) := by simp [strs, encS]
theorem take_succ_eq {α : Type} {a b : List α} {i : Nat} (ha : i < a.length) (hb : i < b.length) (h : a.take i = b.take i) (e : a[i] = b[i]) : a.take (i + 1) = b.take (i + 1) := by
  rw [List.take_add_one, List.take_add_one, h, List.getElem?_eq_getElem ha, List.getElem?_eq_getElem hb, e]
theorem w23 (a b : List Int) : Spec Tryd.prog 23 [lst 1 (ints a), lst 1 (ints b)] (fun r => r = .bool (decide (a = b))) := by
  refine Spec.of_len hf23 fun hlen => ?_
  have hl := len_lst (sz := 1) (rows := ints a) List.mem_cons_self hlen
  rw [ints_len] at hl
  clear hlen
  refine Spec.of_awlS hf23 okf23 (by simp) fun S hS => ?_
  by_cases hab : a.length = b.length
  · have c0 : ((a.length : Int) != b.length) = false := by simp [hab]
    simp only [ints_len, c0, Qs, if_true, Nat.reduceAdd, Nat.reduceBEq, uu f23.eq_1, uu f23b16.eq_1, id @f23r17.eq_1, uu f23b18.eq_1, uu f23b19.eq_1, uu f23b22.eq_1, id @f23r23.eq_1, uu f23b24.eq_1, uu f23b25.eq_1, id @f23r26.eq_1, uu f23b27.eq_1]
    rw [uf23l15]
    refine awl_loop (fun i : Nat => [(0, lst 1 (ints a)), (1, lst 1 (ints b)), (5, .int .i64 i)]) (fun _ => [])
      (fun i => i ≤ a.length ∧ a.take i = b.take i) (fun i => a.length - i) 0 rfl rfl ⟨Nat.zero_le _, rfl⟩ ?_
    rintro i ⟨hi, hj⟩
    by_cases hlt : i < a.length
    · have c1 : (i : Int) < a.length := by omega
      have c2 : (i : Int) < b.length := by omega
      have hltb : i < b.length := by omega
      have c4 : IntKind.i64.wrap ((i : Int) + 1) = (i : Int) + 1 := wrap_in (by omega) (by omega)
      simp only [ints_len, c1, c2, c4, ints_at hlt, ints_at hltb, Qs, if_true, List.nodup_nil, Nat.reduceBEq, id @f23r3.eq_1, id @f23r4.eq_1, uu f23b5.eq_1, uu f23b6.eq_1, id @f23r7.eq_1, uu f23b8.eq_1, uu f23b9.eq_1, uu f23b10.eq_1, uu f23b11.eq_1, id @f23r12.eq_1, uu f23b13.eq_1, uu f23b14.eq_1]
      refine ⟨fun h => fin hS ?_, fun h => Next.intro (i + 1) rfl rfl ⟨by omega, take_succ_eq hlt hltb hj h⟩ (by omega)⟩
      have : a ≠ b := fun e => h (by subst e; rfl)
      simp [this]
    · have c1 : ¬ (i : Int) < a.length := by omega
      simp only [ints_len, c1, Qs, if_true, List.nodup_nil, Nat.reduceBEq, id @f23r1.eq_1, uu f23b2.eq_1, uu f23b11.eq_1, id @f23r12.eq_1, uu f23b13.eq_1, uu f23b14.eq_1]
      rw [List.take_of_length_le (by omega), List.take_of_length_le (by omega)] at hj
      exact fin hS (by simp [hj])
  · have c0 : ((a.length : Int) != b.length) = true := by simp; omega
    simp only [ints_len, c0, Qs, if_true, List.nodup_nil, Nat.reduceAdd, Nat.reduceBEq, uu f23.eq_1, id @f23r20.eq_1, uu f23b21.eq_1, uu f23b22.eq_1, id @f23r23.eq_1, uu f23b24.eq_1, uu f23b25.eq_1, id @f23r26.eq_1, uu f23b27.eq_1]
    have : a ≠ b := fun e => hab (by rw [e])
    exact fin hS (by simp [this])
theorem w26 (a b : List Txt) : Spec Tryd.prog 26 [lst 1 (strs a), lst 1 (strs b)] (fun r => r = .bool (decide (a = b))) := by
  refine Spec.of_len hf26 fun hlen => ?_
  have hl := len_lst (sz := 1) (rows := strs a) List.mem_cons_self hlen
  rw [strs_len] at hl
  clear hlen
  refine Spec.of_awlS hf26 okf26 (by simp) fun S hS => ?_
  by_cases hab : a.length = b.length
  · have c0 : ((a.length : Int) != b.length) = false := by simp [hab]
    simp only [strs_len, c0, Qs, if_true, Nat.reduceAdd, Nat.reduceBEq, uu f26.eq_1, uu f26b16.eq_1, id @f26r17.eq_1, uu f26b18.eq_1, uu f26b19.eq_1, uu f26b22.eq_1, id @f26r23.eq_1, uu f26b24.eq_1, uu f26b25.eq_1, id @f26r26.eq_1, uu f26b27.eq_1]
    rw [uf26l15]
    refine awl_loop (fun i : Nat => [(0, lst 1 (strs a)), (1, lst 1 (strs b)), (5, .int .i64 i)]) (fun _ => [])
      (fun i => i ≤ a.length ∧ a.take i = b.take i) (fun i => a.length - i) 0 rfl rfl ⟨Nat.zero_le _, rfl⟩ ?_
    rintro i ⟨hi, hj⟩
    by_cases hlt : i < a.length
    · have c1 : (i : Int) < a.length := by omega
      have c2 : (i : Int) < b.length := by omega
      have hltb : i < b.length := by omega
      have c4 : IntKind.i64.wrap ((i : Int) + 1) = (i : Int) + 1 := wrap_in (by omega) (by omega)
      simp only [strs_len, c1, c2, c4, strs_at hlt, strs_at hltb, Qs, if_true, List.nodup_nil, Nat.reduceBEq, id @f26r3.eq_1, id @f26r4.eq_1, uu f26b5.eq_1, uu f26b6.eq_1, id @f26r7.eq_1, uu f26b8.eq_1, uu f26b9.eq_1, uu f26b10.eq_1, uu f26b11.eq_1, id @f26r12.eq_1, uu f26b13.eq_1, uu f26b14.eq_1]
      refine ⟨fun h => Next.intro (i + 1) rfl rfl ⟨by omega, take_succ_eq hlt hltb hj h⟩ (by omega), fun h => fin hS ?_⟩
      have : a ≠ b := fun e => h (by subst e; rfl)
      simp [this]
    · have c1 : ¬ (i : Int) < a.length := by omega
      simp only [strs_len, c1, Qs, if_true, List.nodup_nil, Nat.reduceBEq, id @f26r1.eq_1, uu f26b2.eq_1, uu f26b11.eq_1, id @f26r12.eq_1, uu f26b13.eq_1, uu f26b14.eq_1]
      rw [List.take_of_length_le (by omega), List.take_of_length_le (by omega)] at hj
      exact fin hS (by simp [hj])
  · have c0 : ((a.length : Int) != b.length) = true := by simp; omega
    simp only [strs_len, c0, Qs, if_true, List.nodup_nil, Nat.reduceAdd, Nat.reduceBEq, uu f26.eq_1, id @f26r20.eq_1, uu f26b21.eq_1, uu f26b22.eq_1, id @f26r23.eq_1, uu f26b24.eq_1, uu f26b25.eq_1, id @f26r26.eq_1, uu f26b27.eq_1]
    have : a ≠ b := fun e => hab (by rw [e])
    exact fin hS (by simp [this])
end Go.Abs


set_option maxRecDepth 100000
set_option maxHeartbeats 4000000
namespace Go.Abs
open Go.Proofs Go.Wire
def resI (r : Option (Int × Txt)) : V := match r with
  | some (n, r) => .tup [.int .i64 n, .str r, .bool true]
  | none => .tup [.int .i64 0, .str [], .bool false]
end Go.Abs


set_option maxRecDepth 100000
set_option maxHeartbeats 4000000
namespace Go.Abs
open Go.Proofs Go.Wire
theorem Spec.of_awlP {P : Program} {f : FuncId} {n : Nat} {c : AQ} {rs : List RX} {args : List V} {X : V} (hc : cFunc P f = some ⟨n, c.erase, rs⟩) (hok : c.ok = true) (hlen : args.length ≤ n)
    (h : ∀ S : V → Prop, (∀ r, r.fz.nrm = X → S r) → awl P c (endK rs S) (initT 0 args) []) : Spec P f args (fun r => r = X) :=
  (Spec.of_awl hc hok hlen (h (fun r => r.fz.nrm = X) fun _ h => h)).plain.mono (by rintro r' ⟨r, h, rfl⟩; exact h)
theorem resI_scalar (r : Option (Int × Txt)) : (resI r).scalar = true := by unfold resI; split <;> rfl
def resS (r : Option (Txt × Txt)) : V := match r with
  | some (n, r) => .tup [.str n, .str r, .bool true]
  | none => .tup [.str [], .str [], .bool false]
theorem resS_scalar (r : Option (Txt × Txt)) : (resS r).scalar = true := by unfold resS; split <;> rfl
theorem rI_len {s r : Txt} {n : Int} (h : rI s = some (n, r)) : r.length ≤ s.length := by
  have h1 := (rI_some h).2
  rw [h1, List.length_append]; omega
theorem wI_le {n : Int} (h : inI n) : (wI n).length ≤ 21 := by
  have := itoa_len h
  rw [wI, List.length_append, List.length_singleton]; omega
theorem wS_le {s : Txt} (h : s.length ≤ 1000000000000) : (wS s).length ≤ 21 + s.length := by
  have := wI_le (n := s.length) ⟨by omega, by omega⟩
  rw [wS, List.length_append]; omega
theorem wN_snoc {α : Type} (w : α → Txt) (l : List α) {i : Nat} (h : i < l.length) : wN w (l.take (i + 1)) = wN w (l.take i) ++ w l[i] := by
  rw [List.take_add_one, List.getElem?_eq_getElem h]
  simp only [wN, Option.toList_some, List.map_append, List.map_cons, List.map_nil, List.flatten_append, List.flatten_cons, List.flatten_nil, List.append_nil]
def okIs (l : List Int) : Prop := l.length ≤ 100000000 ∧ ∀ x ∈ l, inI x
def bk : List Txt → Nat
  | [] => 0
  | s :: l => s.length + 1 + bk l
def okSs (t : List Txt) : Prop := bk t ≤ 100000000
theorem bk_len : ∀ t : List Txt, t.length ≤ bk t
  | [] => by simp [bk]
  | s :: l => by have := bk_len l; simp only [bk, List.length_cons]; omega
theorem bk_mem : ∀ {t : List Txt} {s : Txt}, s ∈ t → s.length ≤ bk t
  | a :: l, s, h => by
    rcases List.mem_cons.1 h with rfl | h
    · simp only [bk]; omega
    · have := bk_mem h; simp only [bk]; omega
theorem wN_leI : ∀ {l : List Int}, (∀ x ∈ l, inI x) → (wN wI l).length ≤ 21 * l.length
  | [], _ => by simp [wN]
  | x :: l, h => by
    have h1 := wN_leI (l := l) fun y hy => h y (by simp [hy])
    have h2 := wI_le (h x (by simp))
    have e : wN wI (x :: l) = wI x ++ wN wI l := by simp [wN]
    rw [e, List.length_append, List.length_cons]; omega
theorem wN_leS : ∀ {l : List Txt}, bk l ≤ 100000000 → (wN wS l).length ≤ 21 * bk l
  | [], _ => by simp [wN]
  | x :: l, h => by
    simp only [bk] at h ⊢
    have h1 := wN_leS (l := l) (by omega)
    have h2 := wS_le (s := x) (by omega)
    have e : wN wS (x :: l) = wS x ++ wN wS l := by simp [wN]
    rw [e, List.length_append]; omega
end Go.Abs


set_option maxRecDepth 100000
set_option maxHeartbeats 4000000
namespace Go.Abs
open Go.Proofs Go.Wire
def resLs {α : Type} (rows : List α → List (List C)) (r : Option (List α × Txt)) : V := match r with
  | some (l, r) => .tup [lst 1 (rows l), .str r, .bool true]
  | none => .tup [lst 1 (rows []), .str [], .bool false]
theorem rS_len {s t r : Txt} (h : rS s = some (t, r)) : t.length + r.length ≤ s.length := by
  have h1 := ((reads_S s t r).1 h).2
  rw [h1, List.length_append, wS, List.length_append]; omega
def after {α : Type} (acc : List α) (r : Option (List α × Txt)) : Option (List α × Txt) := r.map fun p => (acc ++ p.1, p.2)
theorem after_nil {α : Type} (r : Option (List α × Txt)) : after [] r = r := by cases r <;> rfl
theorem rN_succ {α : Type} (R : Txt → Option (α × Txt)) (acc : List α) (k : Nat) (s : Txt) : after acc (rN R (k + 1) s) = match R s with | none => none | some (x, r) => after (acc ++ [x]) (rN R k r) := by
  rw [rN]
  cases R s with
  | none => rfl
  | some p =>
    obtain ⟨x, r⟩ := p
    simp only [Option.bind_some]
    cases rN R k r with
    | none => rfl
    | some q => simp [after]
theorem fin_L {S : V → Prop} {X : V} (h : ∀ r, r.fz.nrm = X → S r) {e : TypeId} {nl : Option Bool} {rows : List (List C)} {t : Txt} {b : Bool} (hX : X = .tup [lst 1 (C.normRows rows), .str t, .bool b]) : S (.tup [.k (.newl e 1 nl rows), .k (.c (.str t)), .k (.c (.bool b))]) := by
  refine h _ ?_
  simp only [V.fz, V.fzL, V.nrm, V.nrmL, Abs.K.fz, Abs.K.nrm, norm_list, norm_str, norm_bool, hX, lst]
end Go.Abs


set_option maxRecDepth 100000
namespace Go.Proofs
open Go.Shelf Go.RowKit
def Tryd.laysCut_ren : Go.Shelf.Ren :=
  {
    f := fun x =>
      match x with
      | 145 => 30
      | 220 => 38
      | 219 => 43
      | 217 => 54
      | 225 => 55
      | 224 => 56
      | 267 => 57
      | 266 => 66
      | 314 => 67
      | n => n,
    t := fun x =>
      match x with
      | 9 => 9
      | 4 => 4
      | 59 => 31
      | 3 => 3
      | 5 => 5
      | 46 => 78
      | 146 => 90
      | 51 => 86
      | n => n,
    g := fun x =>
      match x with
      | 1 => 0
      | n => n }
theorem Tryd.laysCut : Lays.n145 Tryd.prog Tryd.laysCut_ren :=
  { mixed := by kernel_rfl, f145 := Eq.trans Tryd.func30 (congrArg some (Eq.refl (Body.n145 Tryd.laysCut_ren))),
    f217 := Eq.trans Tryd.func54 (congrArg some (Eq.refl (Body.n217 Tryd.laysCut_ren))),
    f219 := Eq.trans Tryd.func43 (congrArg some (Eq.refl (Body.n219 Tryd.laysCut_ren))),
    f220 := Eq.trans Tryd.func38 (congrArg some (Eq.refl (Body.n220 Tryd.laysCut_ren))),
    f224 := Eq.trans Tryd.func56 (congrArg some (Eq.refl (Body.n224 Tryd.laysCut_ren))),
    f225 := Eq.trans Tryd.func55 (congrArg some (Eq.refl (Body.n225 Tryd.laysCut_ren))),
    f266 := Eq.trans Tryd.func66 (congrArg some (Eq.refl (Body.n266 Tryd.laysCut_ren))),
    f267 := Eq.trans Tryd.func57 (congrArg some (Eq.refl (Body.n267 Tryd.laysCut_ren))),
    f314 := Eq.trans Tryd.func67 (congrArg some (Eq.refl (Body.n314 Tryd.laysCut_ren))), t3 := Tryd.underlying3,
    a3 := Tryd.isAgg3, z3 := Tryd.sizeOf3, v3 := Tryd.zeroValue3, t4 := Tryd.underlying4, a4 := Tryd.isAgg4,
    z4 := Tryd.sizeOf4, v4 := Tryd.zeroValue4, t5 := Tryd.underlying5, a5 := Tryd.isAgg5, z5 := Tryd.sizeOf5,
    v5 := Tryd.zeroValue5, t9 := Tryd.underlying9, a9 := Tryd.isAgg9, z9 := Tryd.sizeOf9, v9 := Tryd.zeroValue9,
    t46 := Tryd.underlying78, a46 := Tryd.isAgg78, z46 := Tryd.sizeOf78, v46 := Tryd.zeroValue78,
    t51 := Tryd.underlying86, a51 := Tryd.isAgg86, z51 := Tryd.sizeOf86, v51 := Tryd.zeroValue86,
    t59 := Tryd.underlying31, a59 := Tryd.isAgg31, z59 := Tryd.sizeOf31, v59 := Tryd.zeroValue31,
    t146 := Tryd.underlying90, a146 := Tryd.isAgg90, z146 := Tryd.sizeOf90, v146 := Tryd.zeroValue90,
    g1 := by kernel_rfl }
def Tryd.laysItoa_ren : Go.Shelf.Ren :=
  {
    f := fun x =>
      match x with
      | 171 => 27
      | 243 => 35
      | 246 => 41
      | 283 => 49
      | 284 => 50
      | 285 => 51
      | 286 => 52
      | 129 => 62
      | 317 => 61
      | 318 => 63
      | 319 => 64
      | 320 => 65
      | 337 => 70
      | 338 => 71
      | n => n,
    t := fun x =>
      match x with
      | 3 => 3
      | 9 => 9
      | 2 => 2
      | 4 => 4
      | 171 => 68
      | 0 => 0
      | 53 => 69
      | 37 => 54
      | 5 => 5
      | 173 => 72
      | 212 => 85
      | 51 => 86
      | 20 => 20
      | 213 => 87
      | 46 => 78
      | 232 => 97
      | 233 => 98
      | n => n,
    g := fun x =>
      match x with
      | 17 => 3
      | 18 => 4
      | 19 => 5
      | n => n }
theorem Tryd.laysItoa : LaysM.n171 Tryd.prog Tryd.laysItoa_ren :=
  { mixed := by kernel_rfl, f129 := Eq.trans Tryd.func62 (congrArg some (Eq.refl (Body.n129 Tryd.laysItoa_ren))),
    f171 := Eq.trans Tryd.func27 (congrArg some (Eq.refl (Body.n171 Tryd.laysItoa_ren))),
    f243 := Eq.trans Tryd.func35 (congrArg some (Eq.refl (Body.n243 Tryd.laysItoa_ren))),
    f246 := Eq.trans Tryd.func41 (congrArg some (Eq.refl (Body.n246 Tryd.laysItoa_ren))),
    f283 := Eq.trans Tryd.func49 (congrArg some (Eq.refl (Body.n283 Tryd.laysItoa_ren))),
    f284 := Eq.trans Tryd.func50 (congrArg some (Eq.refl (Body.n284 Tryd.laysItoa_ren))),
    f285 := Eq.trans Tryd.func51 (congrArg some (Eq.refl (Body.n285 Tryd.laysItoa_ren))),
    f286 := Eq.trans Tryd.func52 (congrArg some (Eq.refl (Body.n286 Tryd.laysItoa_ren))),
    f317 := Eq.trans Tryd.func61 (congrArg some (Eq.refl (Body.n317 Tryd.laysItoa_ren))),
    f318 := Eq.trans Tryd.func63 (congrArg some (Eq.refl (Body.n318 Tryd.laysItoa_ren))),
    f319 := Eq.trans Tryd.func64 (congrArg some (Eq.refl (Body.n319 Tryd.laysItoa_ren))),
    f320 := Eq.trans Tryd.func65 (congrArg some (Eq.refl (Body.n320 Tryd.laysItoa_ren))),
    f337 := Eq.trans Tryd.func70 (congrArg some (Eq.refl (Body.n337 Tryd.laysItoa_ren))),
    f338 := Eq.trans Tryd.func71 (congrArg some (Eq.refl (Body.n338 Tryd.laysItoa_ren))), t0 := Tryd.underlying0,
    a0 := Tryd.isAgg0, z0 := Tryd.sizeOf0, v0 := Tryd.zeroValue0, t2 := Tryd.underlying2, a2 := Tryd.isAgg2,
    z2 := Tryd.sizeOf2, v2 := Tryd.zeroValue2, t3 := Tryd.underlying3, a3 := Tryd.isAgg3, z3 := Tryd.sizeOf3,
    v3 := Tryd.zeroValue3, t4 := Tryd.underlying4, a4 := Tryd.isAgg4, z4 := Tryd.sizeOf4, v4 := Tryd.zeroValue4,
    t5 := Tryd.underlying5, a5 := Tryd.isAgg5, z5 := Tryd.sizeOf5, v5 := Tryd.zeroValue5, t9 := Tryd.underlying9,
    a9 := Tryd.isAgg9, z9 := Tryd.sizeOf9, v9 := Tryd.zeroValue9, t20 := Tryd.underlying20, a20 := Tryd.isAgg20,
    z20 := Tryd.sizeOf20, v20 := Tryd.zeroValue20, t37 := Tryd.underlying54, a37 := Tryd.isAgg54, z37 := Tryd.sizeOf54,
    v37 := Tryd.zeroValue54, t46 := Tryd.underlying78, a46 := Tryd.isAgg78, z46 := Tryd.sizeOf78, v46 := Tryd.zeroValue78,
    t51 := Tryd.underlying86, a51 := Tryd.isAgg86, z51 := Tryd.sizeOf86, v51 := Tryd.zeroValue86,
    t53 := Tryd.underlying69, a53 := Tryd.isAgg69, z53 := Tryd.sizeOf69, v53 := Tryd.zeroValue69,
    t171 := Tryd.underlying68, a171 := Tryd.isAgg68, z171 := Tryd.sizeOf68, v171 := Tryd.zeroValue68,
    t173 := Tryd.underlying72, a173 := Tryd.isAgg72, z173 := Tryd.sizeOf72, v173 := Tryd.zeroValue72,
    t212 := Tryd.underlying85, a212 := Tryd.isAgg85, z212 := Tryd.sizeOf85, v212 := Tryd.zeroValue85,
    t213 := Tryd.underlying87, a213 := Tryd.isAgg87, z213 := Tryd.sizeOf87, t232 := Tryd.underlying97,
    a232 := Tryd.isAgg97, z232 := Tryd.sizeOf97, v232 := Tryd.zeroValue97, t233 := Tryd.underlying98,
    a233 := Tryd.isAgg98, z233 := Tryd.sizeOf98, v233 := Tryd.zeroValue98, g17 := by kernel_rfl,
    g18 := by kernel_rfl, g19 := by kernel_rfl,
    i0 := by kernel_rfl,
    i2 := by kernel_rfl,
    i3 := by kernel_rfl,
    i4 := by kernel_rfl,
    i5 := by kernel_rfl,
    i9 := by kernel_rfl,
    i20 := by kernel_rfl, i37 := by kernel_rfl,
    i46 := by kernel_rfl,
    i51 := by kernel_rfl,
    i53 := by kernel_rfl,
    i171 :=
      Eq.refl
        (some
          (some
              (Go.Value.agg
                #[Go.Value.int Go.IntKind.u8 0, Go.Value.int Go.IntKind.u8 0, Go.Value.int Go.IntKind.u8 0,
                  Go.Value.int Go.IntKind.u8 0, Go.Value.int Go.IntKind.u8 0, Go.Value.int Go.IntKind.u8 0,
                  Go.Value.int Go.IntKind.u8 0, Go.Value.int Go.IntKind.u8 0, Go.Value.int Go.IntKind.u8 0,
                  Go.Value.int Go.IntKind.u8 0, Go.Value.int Go.IntKind.u8 0, Go.Value.int Go.IntKind.u8 0,
                  Go.Value.int Go.IntKind.u8 0, Go.Value.int Go.IntKind.u8 0, Go.Value.int Go.IntKind.u8 0,
                  Go.Value.int Go.IntKind.u8 0, Go.Value.int Go.IntKind.u8 0, Go.Value.int Go.IntKind.u8 0,
                  Go.Value.int Go.IntKind.u8 0, Go.Value.int Go.IntKind.u8 0, Go.Value.int Go.IntKind.u8 0,
                  Go.Value.int Go.IntKind.u8 0, Go.Value.int Go.IntKind.u8 0, Go.Value.int Go.IntKind.u8 0]),
            24, 24)),
    i173 := by kernel_rfl,
    i212 :=
      Eq.refl
        (some
          (some
              (Go.Value.agg
                #[Go.Value.int Go.IntKind.u64 0, Go.Value.int Go.IntKind.u64 0, Go.Value.int Go.IntKind.u64 0,
                  Go.Value.int Go.IntKind.u64 0, Go.Value.int Go.IntKind.u64 0, Go.Value.int Go.IntKind.u64 0,
                  Go.Value.int Go.IntKind.u64 0, Go.Value.int Go.IntKind.u64 0, Go.Value.int Go.IntKind.u64 0,
                  Go.Value.int Go.IntKind.u64 0, Go.Value.int Go.IntKind.u64 0, Go.Value.int Go.IntKind.u64 0,
                  Go.Value.int Go.IntKind.u64 0, Go.Value.int Go.IntKind.u64 0, Go.Value.int Go.IntKind.u64 0,
                  Go.Value.int Go.IntKind.u64 0, Go.Value.int Go.IntKind.u64 0, Go.Value.int Go.IntKind.u64 0,
                  Go.Value.int Go.IntKind.u64 0, Go.Value.int Go.IntKind.u64 0]),
            20, 160)),
    i232 :=
      Eq.refl
        (some
          (some
              (Go.Value.agg
                #[Go.Value.int Go.IntKind.u8 0, Go.Value.int Go.IntKind.u8 0, Go.Value.int Go.IntKind.u8 0,
                  Go.Value.int Go.IntKind.u8 0, Go.Value.int Go.IntKind.u8 0, Go.Value.int Go.IntKind.u8 0,
                  Go.Value.int Go.IntKind.u8 0, Go.Value.int Go.IntKind.u8 0, Go.Value.int Go.IntKind.u8 0,
                  Go.Value.int Go.IntKind.u8 0, Go.Value.int Go.IntKind.u8 0, Go.Value.int Go.IntKind.u8 0,
                  Go.Value.int Go.IntKind.u8 0, Go.Value.int Go.IntKind.u8 0, Go.Value.int Go.IntKind.u8 0,
                  Go.Value.int Go.IntKind.u8 0, Go.Value.int Go.IntKind.u8 0, Go.Value.int Go.IntKind.u8 0,
                  Go.Value.int Go.IntKind.u8 0, Go.Value.int Go.IntKind.u8 0, Go.Value.int Go.IntKind.u8 0,
                  Go.Value.int Go.IntKind.u8 0, Go.Value.int Go.IntKind.u8 0, Go.Value.int Go.IntKind.u8 0,
                  Go.Value.int Go.IntKind.u8 0, Go.Value.int Go.IntKind.u8 0, Go.Value.int Go.IntKind.u8 0,
                  Go.Value.int Go.IntKind.u8 0, Go.Value.int Go.IntKind.u8 0, Go.Value.int Go.IntKind.u8 0,
                  Go.Value.int Go.IntKind.u8 0, Go.Value.int Go.IntKind.u8 0]),
            32, 32)),
    i233 :=
      Eq.refl
        (some
          (some
              (Go.Value.agg
                (let y :=
                    let y :=
                      let y :=
                        let y :=
                          [Go.Value.int Go.IntKind.u8 0, Go.Value.int Go.IntKind.u8 0, Go.Value.int Go.IntKind.u8 0,
                            Go.Value.int Go.IntKind.u8 0];
                        Go.Value.int Go.IntKind.u8 0 ::
                          Go.Value.int Go.IntKind.u8 0 ::
                            Go.Value.int Go.IntKind.u8 0 :: Go.Value.int Go.IntKind.u8 0 :: y;
                      let y :=
                        Go.Value.int Go.IntKind.u8 0 ::
                          Go.Value.int Go.IntKind.u8 0 ::
                            Go.Value.int Go.IntKind.u8 0 :: Go.Value.int Go.IntKind.u8 0 :: y;
                      Go.Value.int Go.IntKind.u8 0 ::
                        Go.Value.int Go.IntKind.u8 0 :: Go.Value.int Go.IntKind.u8 0 :: Go.Value.int Go.IntKind.u8 0 :: y;
                    let y :=
                      let y :=
                        Go.Value.int Go.IntKind.u8 0 ::
                          Go.Value.int Go.IntKind.u8 0 ::
                            Go.Value.int Go.IntKind.u8 0 :: Go.Value.int Go.IntKind.u8 0 :: y;
                      Go.Value.int Go.IntKind.u8 0 ::
                        Go.Value.int Go.IntKind.u8 0 :: Go.Value.int Go.IntKind.u8 0 :: Go.Value.int Go.IntKind.u8 0 :: y;
                    let y :=
                      Go.Value.int Go.IntKind.u8 0 ::
                        Go.Value.int Go.IntKind.u8 0 :: Go.Value.int Go.IntKind.u8 0 :: Go.Value.int Go.IntKind.u8 0 :: y;
                    Go.Value.int Go.IntKind.u8 0 ::
                      Go.Value.int Go.IntKind.u8 0 :: Go.Value.int Go.IntKind.u8 0 :: Go.Value.int Go.IntKind.u8 0 :: y;
                  let y :=
                    let y :=
                      let y :=
                        Go.Value.int Go.IntKind.u8 0 ::
                          Go.Value.int Go.IntKind.u8 0 ::
                            Go.Value.int Go.IntKind.u8 0 :: Go.Value.int Go.IntKind.u8 0 :: y;
                      Go.Value.int Go.IntKind.u8 0 ::
                        Go.Value.int Go.IntKind.u8 0 :: Go.Value.int Go.IntKind.u8 0 :: Go.Value.int Go.IntKind.u8 0 :: y;
                    let y :=
                      Go.Value.int Go.IntKind.u8 0 ::
                        Go.Value.int Go.IntKind.u8 0 :: Go.Value.int Go.IntKind.u8 0 :: Go.Value.int Go.IntKind.u8 0 :: y;
                    Go.Value.int Go.IntKind.u8 0 ::
                      Go.Value.int Go.IntKind.u8 0 :: Go.Value.int Go.IntKind.u8 0 :: Go.Value.int Go.IntKind.u8 0 :: y;
                  let y :=
                    let y :=
                      Go.Value.int Go.IntKind.u8 0 ::
                        Go.Value.int Go.IntKind.u8 0 :: Go.Value.int Go.IntKind.u8 0 :: Go.Value.int Go.IntKind.u8 0 :: y;
                    Go.Value.int Go.IntKind.u8 0 ::
                      Go.Value.int Go.IntKind.u8 0 :: Go.Value.int Go.IntKind.u8 0 :: Go.Value.int Go.IntKind.u8 0 :: y;
                  let y :=
                    Go.Value.int Go.IntKind.u8 0 ::
                      Go.Value.int Go.IntKind.u8 0 :: Go.Value.int Go.IntKind.u8 0 :: Go.Value.int Go.IntKind.u8 0 :: y;
                  Go.Value.int Go.IntKind.u8 0 ::
                    Go.Value.int Go.IntKind.u8 0 ::
                      Go.Value.int Go.IntKind.u8 0 :: Go.Value.int Go.IntKind.u8 0 :: y).toArray),
            64, 64)),
    m17 := by kernel_rfl, m18 := by kernel_rfl,
    m19 := by kernel_rfl }
def Tryd.laysAtoi_ren : Go.Shelf.Ren :=
  {
    f := fun x =>
      match x with
      | 172 => 31
      | 244 => 39
      | 245 => 40
      | 247 => 44
      | 279 => 45
      | 280 => 46
      | 281 => 47
      | 282 => 48
      | 287 => 58
      | 316 => 59
      | 171 => 27
      | 205 => 60
      | 321 => 68
      | 322 => 69
      | 243 => 35
      | 246 => 41
      | 283 => 49
      | 284 => 50
      | 285 => 51
      | 286 => 52
      | 129 => 62
      | 317 => 61
      | 318 => 63
      | 319 => 64
      | 320 => 65
      | 337 => 70
      | 338 => 71
      | n => n,
    t := fun x =>
      match x with
      | 9 => 9
      | 3 => 3
      | 75 => 48
      | 76 => 49
      | 4 => 4
      | 5 => 5
      | 167 => 62
      | 37 => 54
      | 0 => 0
      | 85 => 63
      | 2 => 2
      | 168 => 65
      | 53 => 69
      | 175 => 79
      | 46 => 78
      | 210 => 82
      | 127 => 60
      | 145 => 95
      | 143 => 93
      | 21 => 21
      | 171 => 68
      | 173 => 72
      | 212 => 85
      | 51 => 86
      | 20 => 20
      | 213 => 87
      | 232 => 97
      | 233 => 98
      | 80 => 57
      | n => n,
    g := fun x =>
      match x with
      | 15 => 1
      | 16 => 2
      | 17 => 3
      | 18 => 4
      | 19 => 5
      | n => n }
theorem Tryd.laysAtoi : LaysC.n172 Tryd.prog Tryd.laysAtoi_ren :=
  { mixed := by kernel_rfl, f129 := Eq.trans Tryd.func62 (congrArg some (Eq.refl (Body.n129 Tryd.laysAtoi_ren))),
    f171 := Eq.trans Tryd.func27 (congrArg some (Eq.refl (Body.n171 Tryd.laysAtoi_ren))),
    f172 := Eq.trans Tryd.func31 (congrArg some (Eq.refl (Body.n172 Tryd.laysAtoi_ren))),
    f205 := Eq.trans Tryd.func60 (congrArg some (Eq.refl (Body.n205 Tryd.laysAtoi_ren))),
    f243 := Eq.trans Tryd.func35 (congrArg some (Eq.refl (Body.n243 Tryd.laysAtoi_ren))),
    f244 := Eq.trans Tryd.func39 (congrArg some (Eq.refl (Body.n244 Tryd.laysAtoi_ren))),
    f245 := Eq.trans Tryd.func40 (congrArg some (Eq.refl (Body.n245 Tryd.laysAtoi_ren))),
    f246 := Eq.trans Tryd.func41 (congrArg some (Eq.refl (Body.n246 Tryd.laysAtoi_ren))),
    f247 := Eq.trans Tryd.func44 (congrArg some (Eq.refl (Body.n247 Tryd.laysAtoi_ren))),
    f279 := Eq.trans Tryd.func45 (congrArg some (Eq.refl (Body.n279 Tryd.laysAtoi_ren))),
    f280 := Eq.trans Tryd.func46 (congrArg some (Eq.refl (Body.n280 Tryd.laysAtoi_ren))),
    f281 := Eq.trans Tryd.func47 (congrArg some (Eq.refl (Body.n281 Tryd.laysAtoi_ren))),
    f282 := Eq.trans Tryd.func48 (congrArg some (Eq.refl (Body.n282 Tryd.laysAtoi_ren))),
    f283 := Eq.trans Tryd.func49 (congrArg some (Eq.refl (Body.n283 Tryd.laysAtoi_ren))),
    f284 := Eq.trans Tryd.func50 (congrArg some (Eq.refl (Body.n284 Tryd.laysAtoi_ren))),
    f285 := Eq.trans Tryd.func51 (congrArg some (Eq.refl (Body.n285 Tryd.laysAtoi_ren))),
    f286 := Eq.trans Tryd.func52 (congrArg some (Eq.refl (Body.n286 Tryd.laysAtoi_ren))),
    f287 := Eq.trans Tryd.func58 (congrArg some (Eq.refl (Body.n287 Tryd.laysAtoi_ren))),
    f316 := Eq.trans Tryd.func59 (congrArg some (Eq.refl (Body.n316 Tryd.laysAtoi_ren))),
    f317 := Eq.trans Tryd.func61 (congrArg some (Eq.refl (Body.n317 Tryd.laysAtoi_ren))),
    f318 := Eq.trans Tryd.func63 (congrArg some (Eq.refl (Body.n318 Tryd.laysAtoi_ren))),
    f319 := Eq.trans Tryd.func64 (congrArg some (Eq.refl (Body.n319 Tryd.laysAtoi_ren))),
    f320 := Eq.trans Tryd.func65 (congrArg some (Eq.refl (Body.n320 Tryd.laysAtoi_ren))),
    f321 := Eq.trans Tryd.func68 (congrArg some (Eq.refl (Body.n321 Tryd.laysAtoi_ren))),
    f322 := Eq.trans Tryd.func69 (congrArg some (Eq.refl (Body.n322 Tryd.laysAtoi_ren))),
    f337 := Eq.trans Tryd.func70 (congrArg some (Eq.refl (Body.n337 Tryd.laysAtoi_ren))),
    f338 := Eq.trans Tryd.func71 (congrArg some (Eq.refl (Body.n338 Tryd.laysAtoi_ren))), t0 := Tryd.underlying0,
    a0 := Tryd.isAgg0, z0 := Tryd.sizeOf0, v0 := Tryd.zeroValue0, t2 := Tryd.underlying2, a2 := Tryd.isAgg2,
    z2 := Tryd.sizeOf2, v2 := Tryd.zeroValue2, t3 := Tryd.underlying3, a3 := Tryd.isAgg3, z3 := Tryd.sizeOf3,
    v3 := Tryd.zeroValue3, t4 := Tryd.underlying4, a4 := Tryd.isAgg4, z4 := Tryd.sizeOf4, v4 := Tryd.zeroValue4,
    t5 := Tryd.underlying5, a5 := Tryd.isAgg5, z5 := Tryd.sizeOf5, v5 := Tryd.zeroValue5, t9 := Tryd.underlying9,
    a9 := Tryd.isAgg9, z9 := Tryd.sizeOf9, v9 := Tryd.zeroValue9, t20 := Tryd.underlying20, a20 := Tryd.isAgg20,
    z20 := Tryd.sizeOf20, v20 := Tryd.zeroValue20, t21 := Tryd.underlying21, a21 := Tryd.isAgg21, z21 := Tryd.sizeOf21,
    v21 := Tryd.zeroValue21, t37 := Tryd.underlying54, a37 := Tryd.isAgg54, z37 := Tryd.sizeOf54, v37 := Tryd.zeroValue54,
    t46 := Tryd.underlying78, a46 := Tryd.isAgg78, z46 := Tryd.sizeOf78, v46 := Tryd.zeroValue78,
    t51 := Tryd.underlying86, a51 := Tryd.isAgg86, z51 := Tryd.sizeOf86, v51 := Tryd.zeroValue86,
    t53 := Tryd.underlying69, a53 := Tryd.isAgg69, z53 := Tryd.sizeOf69, v53 := Tryd.zeroValue69,
    t75 := Tryd.underlying48, a75 := Tryd.isAgg48, z75 := Tryd.sizeOf48, v75 := Tryd.zeroValue48,
    t76 := Tryd.underlying49, a76 := Tryd.isAgg49, z76 := Tryd.sizeOf49, v76 := Tryd.zeroValue49,
    t85 := Tryd.underlying63, a85 := Tryd.isAgg63, z85 := Tryd.sizeOf63, v85 := Tryd.zeroValue63,
    t127 := Tryd.underlying60, a127 := Tryd.isAgg60, z127 := Tryd.sizeOf60, v127 := Tryd.zeroValue60,
    t143 := Tryd.underlying93, a143 := Tryd.isAgg93, z143 := Tryd.sizeOf93, v143 := Tryd.zeroValue93,
    t145 := Tryd.underlying95, a145 := Tryd.isAgg95, z145 := Tryd.sizeOf95, v145 := Tryd.zeroValue95,
    t167 := Tryd.underlying62, a167 := Tryd.isAgg62, z167 := Tryd.sizeOf62, v167 := Tryd.zeroValue62,
    t168 := Tryd.underlying65, a168 := Tryd.isAgg65, z168 := Tryd.sizeOf65, v168 := Tryd.zeroValue65,
    t171 := Tryd.underlying68, a171 := Tryd.isAgg68, z171 := Tryd.sizeOf68, v171 := Tryd.zeroValue68,
    t173 := Tryd.underlying72, a173 := Tryd.isAgg72, z173 := Tryd.sizeOf72, v173 := Tryd.zeroValue72,
    t175 := Tryd.underlying79, a175 := Tryd.isAgg79, z175 := Tryd.sizeOf79, v175 := Tryd.zeroValue79,
    t210 := Tryd.underlying82, a210 := Tryd.isAgg82, z210 := Tryd.sizeOf82, v210 := Tryd.zeroValue82,
    t212 := Tryd.underlying85, a212 := Tryd.isAgg85, z212 := Tryd.sizeOf85, v212 := Tryd.zeroValue85,
    t213 := Tryd.underlying87, a213 := Tryd.isAgg87, z213 := Tryd.sizeOf87, t232 := Tryd.underlying97,
    a232 := Tryd.isAgg97, z232 := Tryd.sizeOf97, v232 := Tryd.zeroValue97, t233 := Tryd.underlying98,
    a233 := Tryd.isAgg98, z233 := Tryd.sizeOf98, v233 := Tryd.zeroValue98, g15 := by kernel_rfl,
    g16 := by kernel_rfl, g17 := by kernel_rfl,
    g18 := by kernel_rfl, g19 := by kernel_rfl,
    t80 := Tryd.underlying57, a80 := Tryd.isAgg57, z80 := Tryd.sizeOf57, v80 := Tryd.zeroValue57,
    i0 := by kernel_rfl,
    i2 := by kernel_rfl,
    i3 := by kernel_rfl,
    i4 := by kernel_rfl,
    i5 := by kernel_rfl,
    i9 := by kernel_rfl,
    i20 := by kernel_rfl,
    i21 := by kernel_rfl,
    i37 := by kernel_rfl,
    i46 := by kernel_rfl,
    i51 := by kernel_rfl,
    i53 := by kernel_rfl,
    i75 := by kernel_rfl,
    i76 := by kernel_rfl,
    i80 := by kernel_rfl,
    i85 := by kernel_rfl,
    i127 := by kernel_rfl,
    i143 := by kernel_rfl,
    i145 := by kernel_rfl,
    i167 := by kernel_rfl,
    i168 := by kernel_rfl,
    i171 :=
      Eq.refl
        (some
          (some
              (Go.Value.agg
                #[Go.Value.int Go.IntKind.u8 0, Go.Value.int Go.IntKind.u8 0, Go.Value.int Go.IntKind.u8 0,
                  Go.Value.int Go.IntKind.u8 0, Go.Value.int Go.IntKind.u8 0, Go.Value.int Go.IntKind.u8 0,
                  Go.Value.int Go.IntKind.u8 0, Go.Value.int Go.IntKind.u8 0, Go.Value.int Go.IntKind.u8 0,
                  Go.Value.int Go.IntKind.u8 0, Go.Value.int Go.IntKind.u8 0, Go.Value.int Go.IntKind.u8 0,
                  Go.Value.int Go.IntKind.u8 0, Go.Value.int Go.IntKind.u8 0, Go.Value.int Go.IntKind.u8 0,
                  Go.Value.int Go.IntKind.u8 0, Go.Value.int Go.IntKind.u8 0, Go.Value.int Go.IntKind.u8 0,
                  Go.Value.int Go.IntKind.u8 0, Go.Value.int Go.IntKind.u8 0, Go.Value.int Go.IntKind.u8 0,
                  Go.Value.int Go.IntKind.u8 0, Go.Value.int Go.IntKind.u8 0, Go.Value.int Go.IntKind.u8 0]),
            24, 24)),
    i173 := by kernel_rfl,
    i175 := by kernel_rfl,
    i210 :=
      Eq.refl
        (some
          (some (Go.Value.agg #[Go.Value.string { data := #[] }, Go.Value.string { data := #[] }, Go.Value.nilIface]), 3,
            48)),
    i212 :=
      Eq.refl
        (some
          (some
              (Go.Value.agg
                #[Go.Value.int Go.IntKind.u64 0, Go.Value.int Go.IntKind.u64 0, Go.Value.int Go.IntKind.u64 0,
                  Go.Value.int Go.IntKind.u64 0, Go.Value.int Go.IntKind.u64 0, Go.Value.int Go.IntKind.u64 0,
                  Go.Value.int Go.IntKind.u64 0, Go.Value.int Go.IntKind.u64 0, Go.Value.int Go.IntKind.u64 0,
                  Go.Value.int Go.IntKind.u64 0, Go.Value.int Go.IntKind.u64 0, Go.Value.int Go.IntKind.u64 0,
                  Go.Value.int Go.IntKind.u64 0, Go.Value.int Go.IntKind.u64 0, Go.Value.int Go.IntKind.u64 0,
                  Go.Value.int Go.IntKind.u64 0, Go.Value.int Go.IntKind.u64 0, Go.Value.int Go.IntKind.u64 0,
                  Go.Value.int Go.IntKind.u64 0, Go.Value.int Go.IntKind.u64 0]),
            20, 160)),
    i232 :=
      Eq.refl
        (some
          (some
              (Go.Value.agg
                #[Go.Value.int Go.IntKind.u8 0, Go.Value.int Go.IntKind.u8 0, Go.Value.int Go.IntKind.u8 0,
                  Go.Value.int Go.IntKind.u8 0, Go.Value.int Go.IntKind.u8 0, Go.Value.int Go.IntKind.u8 0,
                  Go.Value.int Go.IntKind.u8 0, Go.Value.int Go.IntKind.u8 0, Go.Value.int Go.IntKind.u8 0,
                  Go.Value.int Go.IntKind.u8 0, Go.Value.int Go.IntKind.u8 0, Go.Value.int Go.IntKind.u8 0,
                  Go.Value.int Go.IntKind.u8 0, Go.Value.int Go.IntKind.u8 0, Go.Value.int Go.IntKind.u8 0,
                  Go.Value.int Go.IntKind.u8 0, Go.Value.int Go.IntKind.u8 0, Go.Value.int Go.IntKind.u8 0,
                  Go.Value.int Go.IntKind.u8 0, Go.Value.int Go.IntKind.u8 0, Go.Value.int Go.IntKind.u8 0,
                  Go.Value.int Go.IntKind.u8 0, Go.Value.int Go.IntKind.u8 0, Go.Value.int Go.IntKind.u8 0,
                  Go.Value.int Go.IntKind.u8 0, Go.Value.int Go.IntKind.u8 0, Go.Value.int Go.IntKind.u8 0,
                  Go.Value.int Go.IntKind.u8 0, Go.Value.int Go.IntKind.u8 0, Go.Value.int Go.IntKind.u8 0,
                  Go.Value.int Go.IntKind.u8 0, Go.Value.int Go.IntKind.u8 0]),
            32, 32)),
    i233 :=
      Eq.refl
        (some
          (some
              (Go.Value.agg
                (let y :=
                    let y :=
                      let y :=
                        let y :=
                          [Go.Value.int Go.IntKind.u8 0, Go.Value.int Go.IntKind.u8 0, Go.Value.int Go.IntKind.u8 0,
                            Go.Value.int Go.IntKind.u8 0];
                        Go.Value.int Go.IntKind.u8 0 ::
                          Go.Value.int Go.IntKind.u8 0 ::
                            Go.Value.int Go.IntKind.u8 0 :: Go.Value.int Go.IntKind.u8 0 :: y;
                      let y :=
                        Go.Value.int Go.IntKind.u8 0 ::
                          Go.Value.int Go.IntKind.u8 0 ::
                            Go.Value.int Go.IntKind.u8 0 :: Go.Value.int Go.IntKind.u8 0 :: y;
                      Go.Value.int Go.IntKind.u8 0 ::
                        Go.Value.int Go.IntKind.u8 0 :: Go.Value.int Go.IntKind.u8 0 :: Go.Value.int Go.IntKind.u8 0 :: y;
                    let y :=
                      let y :=
                        Go.Value.int Go.IntKind.u8 0 ::
                          Go.Value.int Go.IntKind.u8 0 ::
                            Go.Value.int Go.IntKind.u8 0 :: Go.Value.int Go.IntKind.u8 0 :: y;
                      Go.Value.int Go.IntKind.u8 0 ::
                        Go.Value.int Go.IntKind.u8 0 :: Go.Value.int Go.IntKind.u8 0 :: Go.Value.int Go.IntKind.u8 0 :: y;
                    let y :=
                      Go.Value.int Go.IntKind.u8 0 ::
                        Go.Value.int Go.IntKind.u8 0 :: Go.Value.int Go.IntKind.u8 0 :: Go.Value.int Go.IntKind.u8 0 :: y;
                    Go.Value.int Go.IntKind.u8 0 ::
                      Go.Value.int Go.IntKind.u8 0 :: Go.Value.int Go.IntKind.u8 0 :: Go.Value.int Go.IntKind.u8 0 :: y;
                  let y :=
                    let y :=
                      let y :=
                        Go.Value.int Go.IntKind.u8 0 ::
                          Go.Value.int Go.IntKind.u8 0 ::
                            Go.Value.int Go.IntKind.u8 0 :: Go.Value.int Go.IntKind.u8 0 :: y;
                      Go.Value.int Go.IntKind.u8 0 ::
                        Go.Value.int Go.IntKind.u8 0 :: Go.Value.int Go.IntKind.u8 0 :: Go.Value.int Go.IntKind.u8 0 :: y;
                    let y :=
                      Go.Value.int Go.IntKind.u8 0 ::
                        Go.Value.int Go.IntKind.u8 0 :: Go.Value.int Go.IntKind.u8 0 :: Go.Value.int Go.IntKind.u8 0 :: y;
                    Go.Value.int Go.IntKind.u8 0 ::
                      Go.Value.int Go.IntKind.u8 0 :: Go.Value.int Go.IntKind.u8 0 :: Go.Value.int Go.IntKind.u8 0 :: y;
                  let y :=
                    let y :=
                      Go.Value.int Go.IntKind.u8 0 ::
                        Go.Value.int Go.IntKind.u8 0 :: Go.Value.int Go.IntKind.u8 0 :: Go.Value.int Go.IntKind.u8 0 :: y;
                    Go.Value.int Go.IntKind.u8 0 ::
                      Go.Value.int Go.IntKind.u8 0 :: Go.Value.int Go.IntKind.u8 0 :: Go.Value.int Go.IntKind.u8 0 :: y;
                  let y :=
                    Go.Value.int Go.IntKind.u8 0 ::
                      Go.Value.int Go.IntKind.u8 0 :: Go.Value.int Go.IntKind.u8 0 :: Go.Value.int Go.IntKind.u8 0 :: y;
                  Go.Value.int Go.IntKind.u8 0 ::
                    Go.Value.int Go.IntKind.u8 0 ::
                      Go.Value.int Go.IntKind.u8 0 :: Go.Value.int Go.IntKind.u8 0 :: y).toArray),
            64, 64)),
    m15 := by kernel_rfl, m16 := by kernel_rfl,
    m17 := by kernel_rfl, m18 := by kernel_rfl,
    m19 := by kernel_rfl, c0 := by kernel_rfl, c2 := by kernel_rfl,
    c3 := by kernel_rfl, c4 := by kernel_rfl, c5 := by kernel_rfl, c9 := by kernel_rfl,
    c20 := by kernel_rfl, c21 := by kernel_rfl, c37 := by kernel_rfl, c46 := by kernel_rfl,
    c51 := by kernel_rfl, c53 := by kernel_rfl, c75 := by kernel_rfl, c76 := by kernel_rfl,
    c80 := by kernel_rfl, c85 := by kernel_rfl, c127 := by kernel_rfl, c143 := by kernel_rfl,
    c145 := by kernel_rfl, c167 := by kernel_rfl, c168 := by kernel_rfl, c171 := by kernel_rfl,
    c173 := by kernel_rfl, c175 := by kernel_rfl, c210 := by kernel_rfl, c212 := by kernel_rfl,
    c213 := by kernel_rfl, c232 := by kernel_rfl, c233 := by kernel_rfl }
def Tryd.laysString_ren : Go.Shelf.Ren :=
  {
    f := fun x =>
      match x with
      | 169 => 37
      | n => n,
    t := fun x =>
      match x with
      | 70 => 53
      | 9 => 9
      | 0 => 0
      | 72 => 56
      | 37 => 54
      | 127 => 60
      | 3 => 3
      | 5 => 5
      | n => n,
    g := fun x =>
      have n := x;
      n }
theorem Tryd.laysString : Lays.n169 Tryd.prog Tryd.laysString_ren :=
  { mixed := by kernel_rfl, f169 := Eq.trans Tryd.func37 (congrArg some (Eq.refl (Body.n169 Tryd.laysString_ren))),
    t0 := Tryd.underlying0, a0 := Tryd.isAgg0, z0 := Tryd.sizeOf0, v0 := Tryd.zeroValue0, t3 := Tryd.underlying3,
    a3 := Tryd.isAgg3, z3 := Tryd.sizeOf3, v3 := Tryd.zeroValue3, t9 := Tryd.underlying9, a9 := Tryd.isAgg9,
    z9 := Tryd.sizeOf9, v9 := Tryd.zeroValue9, t37 := Tryd.underlying54, a37 := Tryd.isAgg54, z37 := Tryd.sizeOf54,
    v37 := Tryd.zeroValue54, t70 := Tryd.underlying53, a70 := Tryd.isAgg53, z70 := Tryd.sizeOf53, v70 := Tryd.zeroValue53,
    t72 := Tryd.underlying56, a72 := Tryd.isAgg56, z72 := Tryd.sizeOf56, v72 := Tryd.zeroValue56,
    t127 := Tryd.underlying60, a127 := Tryd.isAgg60, z127 := Tryd.sizeOf60, v127 := Tryd.zeroValue60 }
end Go.Proofs


set_option maxRecDepth 100000
namespace Go.Proofs
open Go.Shelf Go.RowKit
theorem ri_cut (s sep : ByteArray) (m : Int) (w : World) (hs : s.size < 4294967281) (hm : w.cell? ⟨0, 0, none⟩ = some (.int .i64 m)) :
    Calls Tryd.prog 30 #[.string s, .string sep] w fun e w' => e = .returned (.tuple #[.string ⟨(Lib.cut s.data.toList sep.data.toList).1.toArray⟩, .string ⟨(Lib.cut s.data.toList sep.data.toList).2.1.toArray⟩, .bool (Lib.cut s.data.toList sep.data.toList).2.2]) ∧ ∃ n, w' = w.drewN n := Any.strings_Cut Tryd.laysCut s sep m w hs hm
theorem ri_ok (s : ByteArray) (hmax : s.size ≤ 9223372036854775806) (v : Int) (h : Lib.atoiAll s.data.toList = .ok v) (w : World) :
    Calls Tryd.prog 31 #[.string s] w fun e w' => e = .returned (.tuple #[.int .i64 v, .nilIface]) ∧ (w' = w ∨ ∃ t, w' = Lib.bytesWorld w 5 t) := Any.strconv_Atoi_ok Tryd.laysAtoi s hmax v h w
theorem ri_itoa (n : Int) (h0 : -9223372036854775808 ≤ n) (h1 : n ≤ 9223372036854775807) (w : World) (htab : Lib.TabIs Tryd.prog w "internal/strconv.uint64pow10" .u64 Lib.pow10Tab) :
    Calls Tryd.prog 27 #[.int .i64 n] w fun e w' => e = .returned (.string ⟨(Lib.itoa n).toArray⟩) ∧ ∃ k os, w' = Sort.grow (w.drewN k) os := Any.strconv_Itoa Tryd.laysItoa n h0 h1 w htab
theorem ri_none (s : ByteArray) (m : Int) (w : World) (hm : w.cell? ⟨0, 0, none⟩ = some (.int .i64 m)) (x y : List UInt8) (hc : Lib.cut (s.data.toList.take (min (s.size : Int) 21).toNat) [59] = (x, y, false)) :
    Calls Tryd.prog 17 #[.string s] w fun e w' => e = .returned (.tuple #[.int .i64 0, .string ⟨#[]⟩, .bool false]) ∧ ∃ n, w' = w.drewN n := by
  go_enter Tryd.func17, Tryd.ntmps17
  go_wp2_with (go_at_call 30; refine (ri_cut _ _ m _ ?_ hm).mono ?_)
  · simp only [ByteArray.size_extract]; omega
  rintro e w' rfl n rfl
  go_wp2
  go_ret3
  exact ⟨rfl, _, rfl⟩
theorem ri_yes (s : ByteArray) (m : Int) (w : World) (hm : w.cell? ⟨0, 0, none⟩ = some (.int .i64 m)) (x y : List UInt8) (hc : Lib.cut (s.data.toList.take (min (s.size : Int) 21).toNat) [59] = (x, y, true)) (hx : x.length ≤ 20) (hxs : x.length + 1 ≤ s.size) (v : Int) (hv : Lib.atoiAll x = .ok v)
    (h0 : -9223372036854775808 ≤ v) (h1 : v ≤ 9223372036854775807) (htab : ∀ w', Below w.heap.size w w' → Lib.TabIs Tryd.prog w' "internal/strconv.uint64pow10" .u64 Lib.pow10Tab) :
    Calls Tryd.prog 17 #[.string s] w fun e w' => e = .returned (if Lib.itoa v = x then .tuple #[.int .i64 v, .string ⟨(s.data.toList.drop (x.length + 1)).toArray⟩, .bool true] else .tuple #[.int .i64 0, .string ⟨#[]⟩, .bool false]) ∧ Below w.heap.size w w' := by
  go_enter Tryd.func17, Tryd.ntmps17
  go_wp2_with (go_at_call 30; refine (ri_cut _ _ m _ ?_ hm).mono ?_)
  · simp only [ByteArray.size_extract]; omega
  rintro e w' rfl n rfl
  go_wp2_with (go_at_call 31; refine (ri_ok _ ?_ v hv _).mono ?_)
  · show x.toArray.size ≤ _
    simp; omega
  rintro e w' ⟨rfl, hw⟩
  have hwb : Below w.heap.size w w' := by
    rcases hw with rfl | ⟨t, rfl⟩
    · exact ⟨rfl, rfl, rfl, Nat.le_refl _, fun _ _ => rfl⟩
    · have h9 := Lib.bytesWorld_below (w.drewN n) 5 t
      exact Below.trans (show Below w.heap.size w (w.drewN n) from ⟨rfl, rfl, rfl, Nat.le_refl _, fun _ _ => rfl⟩) h9
  go_wp2_with (go_at_call 27; refine (ri_itoa v h0 h1 _ ?_).mono ?_)
  · exact htab _ hwb
  rintro e w'' ⟨rfl, k, os, rfl⟩
  have hb2 : Below w.heap.size w (Sort.grow (w'.drewN k) os) := hwb.trans ⟨rfl, rfl, rfl, by show w'.heap.size ≤ (w'.heap ++ os).size; rw [Array.size_append]; omega, fun b hb => by
    show (w'.heap ++ os)[b]? = _
    exact Array.getElem?_append_left (Nat.lt_of_lt_of_le hb hwb.size)⟩
  generalize Sort.grow (w'.drewN k) os = w2 at hb2
  have hsz : (⟨x.toArray⟩ : ByteArray).size = x.length := by show x.toArray.size = _; simp
  have hwr : IntKind.i64.wrap ((x.length : Int) + 1) = (x.length : Int) + 1 := by unfold IntKind.wrap; simp [IntKind.signed, IntKind.bits]; omega
  have hsl : (x.length : Int) + 1 ≤ s.size := by omega
  by_cases hi : Lib.itoa v = x
  · subst hi
    go_wp2
    go_quiet (fail)
    go_wp2
    go_ret3
    refine ⟨?_, hb2.trans ⟨rfl, rfl, rfl, Nat.le_refl _, fun _ _ => rfl⟩⟩
    have hex : s.extract ((Lib.itoa v).length + 1) s.size = ⟨(s.data.toList.drop ((Lib.itoa v).length + 1)).toArray⟩ := by
      have hl : s.size = s.data.toList.length := by rw [Array.length_toList]; rfl
      apply ByteArray.ext
      apply Array.ext'
      rw [ByteArray.data_extract, hl, Array.toList_extract, List.extract_eq_take_drop]
      exact List.take_of_length_le (by rw [List.length_drop]; omega)
    first
      | (rw [← hex]; rfl)
      | (rw [if_pos rfl, ← hex]; rfl)
  · have hne : ¬ (⟨(Lib.itoa v).toArray⟩ : ByteArray) = ⟨x.toArray⟩ := fun e => hi (by simpa using congrArg (fun b : ByteArray => b.data.toList) e)
    go_wp2
    · go_ret3
      exact ⟨rfl, hb2⟩
    · exfalso
      simp_all
theorem ri_fail (s : ByteArray) (hlim : s.size ≤ 281474976710656) (h : ∀ v, Lib.atoiAll s.data.toList ≠ .ok v) (w : World)
    (ev1 ev2 : Value) (h1 : w.cell? ⟨Tryd.laysAtoi_ren.g 15, 0, none⟩ = some ev1) (he1 : ev1 = .nilIface ∨ ∃ te pe, ev1 = .iface te pe) (h2 : w.cell? ⟨Tryd.laysAtoi_ren.g 16, 0, none⟩ = some ev2) (he2 : ev2 = .nilIface ∨ ∃ te pe, ev2 = .iface te pe) :
    Calls Tryd.prog 31 #[.string s] w fun e w' => ∃ n N, e = .returned (.tuple #[.int .i64 n, .iface (Tryd.laysAtoi_ren.t 168) (.pointer (some ⟨N, 0, none⟩))]) ∧ Below w.heap.size w w' := by
  cases hx : Lib.atoiAll s.data.toList with
  | ok v => exact absurd hx (h v)
  | range =>
    refine (Any.strconv_Atoi_range Tryd.laysAtoi s hlim hx ev2 w h2 he2).mono ?_
    rintro e w' ⟨N, rfl, -, -, hb⟩
    exact ⟨_, N, rfl, hb⟩
  | _ =>
    refine (Any.strconv_Atoi_syntax Tryd.laysAtoi s hlim hx ev1 w h1 he1).mono ?_
    rintro e w' ⟨N, rfl, -, -, hb⟩
    exact ⟨_, N, rfl, hb⟩
theorem ri_bad (s : ByteArray) (m : Int) (w : World) (hm : w.cell? ⟨0, 0, none⟩ = some (.int .i64 m)) (x y : List UInt8) (hc : Lib.cut (s.data.toList.take (min (s.size : Int) 21).toNat) [59] = (x, y, true)) (hx : x.length ≤ 20)
    (h : ∀ v, Lib.atoiAll x ≠ .ok v)
    (ev1 ev2 : Value) (h1 : w.cell? ⟨Tryd.laysAtoi_ren.g 15, 0, none⟩ = some ev1) (he1 : ev1 = .nilIface ∨ ∃ te pe, ev1 = .iface te pe) (h2 : w.cell? ⟨Tryd.laysAtoi_ren.g 16, 0, none⟩ = some ev2) (he2 : ev2 = .nilIface ∨ ∃ te pe, ev2 = .iface te pe) :
    Calls Tryd.prog 17 #[.string s] w fun e w' => e = .returned (.tuple #[.int .i64 0, .string ⟨#[]⟩, .bool false]) ∧ Below w.heap.size w w' := by
  go_enter Tryd.func17, Tryd.ntmps17
  go_wp2_with (go_at_call 30; refine (ri_cut _ _ m _ ?_ hm).mono ?_)
  · simp only [ByteArray.size_extract]; omega
  rintro e w' rfl n rfl
  have hf := ri_fail ⟨x.toArray⟩ (by show x.toArray.size ≤ _; simp; omega) (show ∀ v, Lib.atoiAll (⟨x.toArray⟩ : ByteArray).data.toList ≠ .ok v from h) (w.drewN n) ev1 ev2 h1 he1 h2 he2
  go_wp2_with (go_at_call 31; refine hf.mono ?_)
  rintro e w' ⟨nn, N, rfl, hb⟩
  go_wp2
  go_ret3
  exact ⟨rfl, Below.trans (show Below w.heap.size w (w.drewN n) from ⟨rfl, rfl, rfl, Nat.le_refl _, fun _ _ => rfl⟩) hb⟩
end Go.Proofs


set_option maxRecDepth 10000
namespace Go.Wire
open Go.Lib
theorem index_semi : ∀ t : Txt, index t [59] = if (59 : UInt8) ∈ t then ((t.takeWhile fun c => decide (c ≠ 59)).length : Int) else -1
  | [] => rfl
  | b :: l => by
    have ih := index_semi l
    rw [index]
    by_cases hb : b = 59
    · subst hb
      have e : ([59] : List UInt8).isPrefixOf (59 :: l) = true := by simp [List.isPrefixOf]
      rw [e]
      simp
    · have e : ([59] : List UInt8).isPrefixOf (b :: l) = false := by
        simp only [List.isPrefixOf, Bool.and_true, beq_eq_false_iff_ne]
        exact fun h => hb h.symm
      rw [e, ih]
      have hm : (59 : UInt8) ∈ b :: l ↔ 59 ∈ l := ⟨fun h => (List.mem_cons.1 h).resolve_left (fun h => hb h.symm), List.mem_cons_of_mem _⟩
      by_cases h : (59 : UInt8) ∈ l
      · rw [if_pos h, if_pos (hm.2 h), List.takeWhile_cons_of_pos (by simpa using hb)]
        have : ¬ (((l.takeWhile fun c => decide (c ≠ 59)).length : Int) == -1) = true := by
          simp only [beq_iff_eq]; omega
        simp only [Bool.false_eq_true, if_false, this, List.length_cons]
        push_cast; rfl
      · rw [if_neg h, if_neg (fun h2 => h (hm.1 h2))]
        rfl
theorem cut_semi (t : Txt) : (cut t [59]).2.2 = decide ((59 : UInt8) ∈ t) ∧ ((59 : UInt8) ∈ t → (cut t [59]).1 = t.takeWhile fun c => decide (c ≠ 59)) := by
  unfold cut
  rw [index_semi]
  by_cases h : (59 : UInt8) ∈ t
  · rw [if_pos h, if_pos (by omega)]
    refine ⟨by simp [h], fun _ => ?_⟩
    obtain ⟨r, hr⟩ := cut_at h
    generalize (t.takeWhile fun c => decide (c ≠ 59)) = x at hr ⊢
    show t.take (x.length : Int).toNat = x
    rw [hr, Int.toNat_natCast]
    simp
  · rw [if_neg h, if_neg (by omega)]
    exact ⟨by simp [h], fun h2 => absurd h2 h⟩
end Go.Wire


set_option maxRecDepth 100000
namespace Go.Proofs
open Go.Shelf Go.RowKit Go.Wire
def riV (t : Txt) : Value := match rI t with
  | some (n, r) => .tuple #[.int .i64 n, .string ⟨r.toArray⟩, .bool true]
  | none => .tuple #[.int .i64 0, .string ⟨#[]⟩, .bool false]
theorem readInt (s : ByteArray) (m : Int) (w : World) (hm : w.cell? ⟨0, 0, none⟩ = some (.int .i64 m)) (htab : ∀ w', Below w.heap.size w w' → Lib.TabIs Tryd.prog w' "internal/strconv.uint64pow10" .u64 Lib.pow10Tab)
    (ev1 ev2 : Value) (h1 : w.cell? ⟨Tryd.laysAtoi_ren.g 15, 0, none⟩ = some ev1) (he1 : ev1 = .nilIface ∨ ∃ te pe, ev1 = .iface te pe) (h2 : w.cell? ⟨Tryd.laysAtoi_ren.g 16, 0, none⟩ = some ev2) (he2 : ev2 = .nilIface ∨ ∃ te pe, ev2 = .iface te pe) :
    Calls Tryd.prog 17 #[.string s] w fun e w' => e = .returned (riV s.data.toList) ∧ Below w.heap.size w w' := by
  have hl : s.size = s.data.toList.length := by rw [Array.length_toList]; rfl
  have ht : s.data.toList.take (min (s.size : Int) 21).toNat = s.data.toList.take 21 := by
    by_cases h : s.size ≤ 21
    · rw [show (min (s.size : Int) 21).toNat = s.size by omega, hl, List.take_length, List.take_of_length_le (by omega)]
    · rw [show (min (s.size : Int) 21).toNat = 21 by omega]
  obtain ⟨c1, c2⟩ := cut_semi (s.data.toList.take 21)
  by_cases h59 : (59 : UInt8) ∈ s.data.toList.take 21
  · obtain ⟨r, hr⟩ := cut_at h59
    have hx := c2 h59
    have hri : rI s.data.toList = match Lib.atoiAll ((s.data.toList.take 21).takeWhile fun c => decide (c ≠ 59)) with
      | .ok n => if Lib.itoa n = (s.data.toList.take 21).takeWhile (fun c => decide (c ≠ 59)) then some (n, s.data.toList.drop ((Lib.itoa n).length + 1)) else none
      | _ => none := by
      first
        | (rw [rI, if_pos h59]; done)
        | (rw [rI, if_pos h59]; cases Lib.atoiAll ((s.data.toList.take 21).takeWhile fun c => decide (c ≠ 59)) <;> rfl)
    generalize ((s.data.toList.take 21).takeWhile fun c => decide (c ≠ 59)) = x at hr hx hri
    have hlen := congrArg List.length hr
    rw [List.length_take, List.length_append, List.length_cons] at hlen
    have hc : Lib.cut (s.data.toList.take (min (s.size : Int) 21).toNat) [59] = (x, (Lib.cut (s.data.toList.take 21) [59]).2.1, true) := by
      rw [ht]
      refine Prod.ext hx (Prod.ext rfl ?_)
      show _ = true
      rw [c1]; simpa using h59
    cases ha : Lib.atoiAll x with
    | ok v =>
      obtain ⟨b0, b1⟩ := atoi_in ha
      refine (ri_yes s m w hm x _ hc (by omega) (by omega) v ha b0 b1 htab).mono ?_
      rintro e w' ⟨rfl, hb⟩
      refine ⟨?_, hb⟩
      rw [riV, hri, ha]
      by_cases hi : Lib.itoa v = x
      · simp only [hi, if_true]
      · simp only [hi, if_false]
    | _ =>
      refine (ri_bad s m w hm x _ hc (by omega) (by intro v; rw [ha]; intro e; cases e) ev1 ev2 h1 he1 h2 he2).mono ?_
      rintro e w' ⟨rfl, hb⟩
      exact ⟨by rw [riV, hri, ha], hb⟩
  · have hc : Lib.cut (s.data.toList.take (min (s.size : Int) 21).toNat) [59] = ((Lib.cut (s.data.toList.take 21) [59]).1, (Lib.cut (s.data.toList.take 21) [59]).2.1, false) := by
      rw [ht]
      refine Prod.ext rfl (Prod.ext rfl ?_)
      show _ = false
      rw [c1]; simpa using h59
    refine (ri_none s m w hm _ _ hc).mono ?_
    rintro e w' ⟨rfl, n, rfl⟩
    exact ⟨by rw [riV, rI, if_neg h59], ⟨rfl, rfl, rfl, Nat.le_refl _, fun _ _ => rfl⟩⟩
end Go.Proofs

