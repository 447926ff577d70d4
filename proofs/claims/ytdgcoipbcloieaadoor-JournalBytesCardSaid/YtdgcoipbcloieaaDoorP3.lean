/- JournalBytes of the program: the row and its tied card -/
import Derived.Test.YtdgcoipbcloieaaDoorP2
import Derived.Shelf.Sort.Plain
import Derived.Shelf.Slices.CompactI
import Derived.Sort.OwnSortedInts
import Derived.Shelf.Slices.In.SortNone
import Derived.Shelf.Spec.SlicesGrow
import Derived.Shelf.Strconv.Itoa3
import Derived.Shelf.Strings.Cut
import Derived.Handed
import Derived.ChangeFn
import Derived.ChangeArms
import Derived.ChangeReads
import Derived.ReadAgain
import Derived.ChangeSame
import Derived.ChangeOld
import Derived.ChangeStays
import Derived.RowKit
import Derived.Test.YtdgcoipbcloieaaDoorProg
set_option linter.unusedVariables false
set_option linter.unusedSimpArgs false
namespace Go.Abs
inductive AQ where
  | skip
  | region (ops : List AI)
  | draw (ops : List AI) (pre : List (List Nat))
  | tree (ops : List AI) (pre : List (List Nat))
  | seq (a b : AQ)
  | cond (c : AX) (a b : AQ)
  | block (id : Nat) (a : AQ)
  | loop (L M : List Nat) (a : AQ)
  | exit (id : Nat)
  | ret
  | keep (L M : List Nat) (a : AQ)
  | own (τ A e sz : Nat) (a : AQ)
  | swap (x y : Nat) (a : AQ)
  | frz (τ : Nat) (a : AQ)
  deriving Inhabited
def AQ.erase : AQ → AC
  | .skip => .skip
  | .region l => .region l
  | .draw l p => .draw l p
  | .tree l p => .draw l p
  | .seq a b => .seq a.erase b.erase
  | .cond c a b => .cond c a.erase b.erase
  | .block i a => .block i a.erase
  | .loop _ _ a => .loop a.erase
  | .exit i => .exit i
  | .ret => .ret
  | .keep _ _ a => a.erase
  | .own _ _ _ _ a => a.erase
  | .swap _ _ a => a.erase
  | .frz _ a => a.erase
def AQ.ok : AQ → Bool
  | .draw l p => listOk l p
  | .seq a b => a.ok && b.ok
  | .cond _ a b => a.ok && b.ok
  | .block _ a => a.ok
  | .loop _ _ a => a.ok
  | .keep _ _ a => a.ok
  | .own _ _ _ _ a => a.ok
  | .swap _ _ a => a.ok
  | .frz _ a => a.ok
  | _ => true
def St.keep (σ : St) (L M : List Nat) : St := ⟨fun s => if L.contains s then σ.t s else .any, tabIn M σ.o⟩
def sw (x y s : Nat) : Nat := if s = x then y else if s = y then x else s
theorem sw_sw (x y s : Nat) : sw x y (sw x y s) = s := by
  unfold sw
  by_cases h1 : s = x <;> by_cases h2 : s = y <;> simp_all
def Cap.sw (x y : Nat) : Cap → Cap
  | .tok s => .tok (Abs.sw x y s)
  | .ro row off => .ro row off
def K.sw (x y : Nat) : K → K
  | .c a => .c a
  | .own s => .own (Abs.sw x y s)
  | .ptr s o => .ptr (Abs.sw x y s) o
  | .elem s i o => .elem (Abs.sw x y s) i o
  | .pel sz rows i o => .pel sz rows i o
  | .fnk f caps => .fnk f (caps.map (Cap.sw x y))
  | .newl e sz nl rows => .newl e sz nl rows
  | .dead => .dead
def V.sw (x y : Nat) : V → V
  | .k a => .k (a.sw x y)
  | .agg r => .agg r
  | .agk r => .agk (r.map (K.sw x y))
  | .undef => .undef
  | .tup _ => .any
  | .any => .any
def O.sw (x y : Nat) : O → O
  | .var e row => .var e (row.map (K.sw x y))
  | .arr e sz nl rows => .arr e sz nl rows
def St.sw (σ : St) (x y : Nat) : St := ⟨fun s => (σ.t s).sw x y, fun s => (σ.o (Abs.sw x y s)).map (O.sw x y)⟩
def St.noA (σ : St) (A : Nat) : Prop := σ.o A = none ∧ (∀ s, (σ.t s).noRef A = true) ∧ ∀ s ob, σ.o s = some ob → ob.noRef A = true
def St.ownNil (σ : St) (τ A e sz : Nat) (e' : TypeId) : St := ⟨σ.t, fun s => if s = A then some (.arr e sz (some true) []) else if s = τ then some (.var e' [.own A]) else σ.o s⟩
def awq (P : Program) : AQ → (AE → St → Prop) → St → Prop
  | .skip, Q, σ => Q .normal σ
  | .region ops, Q, σ => wpAIs P ops (Q .normal) σ
  | .draw ops _, Q, σ => wpQs P ops (Q .normal) σ
  | .tree ops pre, Q, σ => wpT P (treeOf ops pre) (Q .normal) σ
  | .seq a b, Q, σ => awq P a (AE.then (awq P b Q) Q) σ
  | .cond c a b, Q, σ => c.evg σ true fun v =>
      match v with
      | .k (.c (.bool t)) => (t = true → awq P a Q σ) ∧ (t = false → awq P b Q σ)
      | _ => False
  | .block id a, Q, σ => awq P a (AE.inBlock id Q) σ
  | .loop L M a, Q, σ => ∃ I : Nat → St → Prop, (∃ n, I n (σ.keep L M)) ∧ ∀ n σ', I n σ' → awq P a (AE.then (fun σ'' => ∃ m, m < n ∧ I m (σ''.keep L M)) Q) σ'
  | .exit id, Q, σ => Q (.exit id) σ
  | .ret, Q, σ => Q .ret σ
  | .keep L M a, Q, σ => awq P a Q (σ.keep L M)
  | .own τ A e sz a, Q, σ => ∃ e' z, σ.o τ = some (.var e' [.c (.list z (some true) [])]) ∧ σ.noA A ∧ awq P a Q (σ.ownNil τ A e sz e')
  | .swap x y a, Q, σ => awq P a Q (σ.sw x y)
  | .frz τ a, Q, σ => awq P a Q (σ.frz τ)
section
variable {P : Program} {w0 : Base} {w : World} {Z0 Z : Bk → Prop} {κ : Kap} {σ : St} {fr : Array Value} {o o' : Nat → Option O}
theorem CapRep.sub (ho : ∀ τ ob, o' τ = some ob → o τ = some ob) {c : Cap} {v : Value} (h : CapRep w Z κ o c v) : CapRep w Z κ o' c v := by
  cases c with
  | tok τ => exact fun e row h' => h e row (ho _ _ h')
  | ro => exact h
theorem KRep.sub (ho : ∀ τ ob, o' τ = some ob → o τ = some ob) {x : K} {v : Value} (h : KRep w Z κ o x v) : KRep w Z κ o' x v := by
  cases x with
  | own τ => exact fun e sz nl rows h' => h e sz nl rows (ho _ _ h')
  | ptr τ off => exact fun e row h' => h e row (ho _ _ h')
  | elem τ i off => exact fun e sz nl rows h' => h e sz nl rows (ho _ _ h')
  | fnk f caps =>
    obtain ⟨vs, h1, h2, h3⟩ := h
    exact ⟨vs, h1, h2, fun j c hc => let ⟨u, hu, hr⟩ := h3 j c hc; ⟨u, hu, hr.sub ho⟩⟩
  | _ => exact h
theorem KRow.sub (ho : ∀ τ ob, o' τ = some ob → o τ = some ob) {r : List K} {cs : List Value} (h : KRow w Z κ o r cs) : KRow w Z κ o' r cs :=
  ⟨h.1, fun j k v hk hv => ⟨(h.2 j k v hk hv).1, (h.2 j k v hk hv).2.sub ho⟩⟩
mutual
theorem VRep.sub (ho : ∀ τ ob, o' τ = some ob → o τ = some ob) : ∀ {x : V} {v : Value}, VRep w Z κ o x v → VRep w Z κ o' x v
  | .k x, v, h => ⟨h.1, h.2.sub ho⟩
  | .agg r, v, h => h
  | .agk r, v, ⟨cs, e, h⟩ => ⟨cs, e, h.sub ho⟩
  | .tup vs, v, ⟨us, e, hl, h⟩ => ⟨us, e, hl, VRepL.sub ho h⟩
  | .undef, v, h => h
  | .any, v, h => trivial
theorem VRepL.sub (ho : ∀ τ ob, o' τ = some ob → o τ = some ob) : ∀ {xs : List V} {vs : List Value}, VRepL w Z κ o xs vs → VRepL w Z κ o' xs vs
  | [], _, h => trivial
  | _ :: _, [], h => trivial
  | x :: xs, v :: vs, h => ⟨VRep.sub ho h.1, VRepL.sub ho h.2⟩
end
theorem ORep.sub (ho : ∀ τ ob, o' τ = some ob → o τ = some ob) {τ : Nat} {ob : O} (h : ORep w Z κ o τ ob) : ORep w Z κ o' τ ob := by
  cases ob with
  | var e row =>
    obtain ⟨b, cur, h1, h2, h3⟩ := h
    exact ⟨b, cur, h1, h2, h3.sub ho⟩
  | arr => exact h
theorem keep_le (σ : St) (L M : List Nat) : σ.le (σ.keep L M) := by
  intro w0 Z0 κ fr w hi
  refine ⟨κ, ?_⟩
  have ho : ∀ τ ob, (σ.keep L M).o τ = some ob → σ.o τ = some ob := by
    intro τ ob h
    simp only [St.keep, tabIn] at h
    split at h
    · exact h
    · simp at h
  have hn : ∀ τ, (σ.keep L M).o τ ≠ none → σ.o τ ≠ none := by
    intro τ h
    obtain ⟨ob, hob⟩ := Option.ne_none_iff_exists'.1 h
    rw [ho τ ob hob]; simp
  have hsub : ∀ b, Zof w0 Z0 κ σ.o w b → Zof w0 Z0 κ (σ.keep L M).o w b := fun b hb => ⟨hb.1, hb.2.1, fun τ hτ => hb.2.2 τ (hn τ hτ)⟩
  have hself : Same (Zof w0 Z0 κ σ.o w) w w := fun _ _ => rfl
  have ht : TabLike (fun _ => True) σ.o σ.o κ κ w w := fun τ _ => ⟨Like.refl _, rfl, fun _ b _ cur e f hb => ⟨cur, hb, rfl⟩⟩
  refine ⟨hi.kept, hi.glob, fun τ b h hb => hi.own τ b (hn τ h) hb, fun τ τ' b h h' hb hb' => hi.inj τ τ' b (hn τ h) (hn τ' h') hb hb', fun τ ob h => ?_, fun s => ?_⟩
  · exact ((hi.objs τ ob (ho τ ob h)).mono hself hsub ht rfl (fun _ _ => rfl) (fun _ _ => trivial)).sub ho
  · show VRep _ _ _ _ (if L.contains s then σ.t s else .any) _
    split
    · exact ((hi.tmps s).mono hself hsub ht (fun _ _ => trivial)).sub ho
    · trivial
section sw
variable {x y : Nat}
theorem sw_arr {τ : Nat} {e : TypeId} {sz : Nat} {nl : Option Bool} {rows : List (List C)} (h : (o (Abs.sw x y (Abs.sw x y τ))).map (O.sw x y) = some (.arr e sz nl rows)) : o τ = some (.arr e sz nl rows) := by
  rw [sw_sw] at h
  cases ho : o τ with
  | none => rw [ho] at h; cases h
  | some ob =>
    rw [ho] at h
    cases ob with
    | var => simp [O.sw] at h
    | arr => simpa [O.sw] using h
theorem sw_var {τ : Nat} {e : TypeId} {row : List K} (h : (o (Abs.sw x y (Abs.sw x y τ))).map (O.sw x y) = some (.var e row)) : ∃ row', o τ = some (.var e row') := by
  rw [sw_sw] at h
  cases ho : o τ with
  | none => rw [ho] at h; cases h
  | some ob =>
    rw [ho] at h
    cases ob with
    | var e' r => simp [O.sw] at h; exact ⟨r, by rw [h.1]⟩
    | arr => simp [O.sw] at h
theorem CapRep.sw {c : Cap} {v : Value} (h : CapRep w Z κ o c v) : CapRep w Z (fun s => κ (Abs.sw x y s)) (fun s => (o (Abs.sw x y s)).map (O.sw x y)) (c.sw x y) v := by
  cases c with
  | tok τ =>
    intro e row h'
    obtain ⟨row', hr⟩ := sw_var (x := x) (y := y) h'
    simp only [sw_sw]
    exact h e row' hr
  | ro => exact h
theorem KRep.sw {k : K} {v : Value} (h : KRep w Z κ o k v) : KRep w Z (fun s => κ (Abs.sw x y s)) (fun s => (o (Abs.sw x y s)).map (O.sw x y)) (k.sw x y) v := by
  cases k with
  | own τ =>
    intro e sz nl rows h'
    simp only [sw_sw]
    exact h e sz nl rows (sw_arr h')
  | ptr τ off =>
    intro e row h'
    obtain ⟨row', hr⟩ := sw_var (x := x) (y := y) h'
    simp only [sw_sw]
    exact h e row' hr
  | elem τ i off =>
    intro e sz nl rows h'
    simp only [sw_sw]
    exact h e sz nl rows (sw_arr h')
  | fnk f caps =>
    obtain ⟨vs, h1, h2, h3⟩ := h
    refine ⟨vs, h1, by simpa using h2, fun j c hc => ?_⟩
    simp only [List.getElem?_map, Option.map_eq_some_iff] at hc
    obtain ⟨c', hc', rfl⟩ := hc
    obtain ⟨u, hu, hr⟩ := h3 j c' hc'
    exact ⟨u, hu, hr.sw⟩
  | _ => exact h
theorem KRow.sw {r : List K} {cs : List Value} (h : KRow w Z κ o r cs) : KRow w Z (fun s => κ (Abs.sw x y s)) (fun s => (o (Abs.sw x y s)).map (O.sw x y)) (r.map (K.sw x y)) cs := by
  refine ⟨by simpa using h.1, fun j k v hk hv => ?_⟩
  simp only [List.getElem?_map, Option.map_eq_some_iff] at hk
  obtain ⟨k', hk', rfl⟩ := hk
  exact ⟨(h.2 j k' v hk' hv).1, (h.2 j k' v hk' hv).2.sw⟩
theorem VRep.sw {a : V} {v : Value} (h : VRep w Z κ o a v) : VRep w Z (fun s => κ (Abs.sw x y s)) (fun s => (o (Abs.sw x y s)).map (O.sw x y)) (a.sw x y) v := by
  cases a with
  | k a => exact ⟨h.1, KRep.sw h.2⟩
  | agg r => exact h
  | agk r => obtain ⟨cs, e, h⟩ := h; exact ⟨cs, e, h.sw⟩
  | tup vs => trivial
  | undef => exact h
  | any => trivial
theorem sw_le (σ : St) (x y : Nat) : σ.le (σ.sw x y) := by
  intro w0 Z0 κ fr w hi
  refine ⟨fun s => κ (Abs.sw x y s), ?_⟩
  have hn : ∀ s, (σ.sw x y).o s ≠ none → σ.o (Abs.sw x y s) ≠ none := by
    intro s h e
    apply h
    show (σ.o (Abs.sw x y s)).map (O.sw x y) = none
    rw [e]; rfl
  have hself : Same (Zof w0 Z0 κ σ.o w) w w := fun _ _ => rfl
  have hsub : ∀ b, Zof w0 Z0 κ σ.o w b → Zof w0 Z0 (fun s => κ (Abs.sw x y s)) (σ.sw x y).o w b := fun b hb => ⟨hb.1, hb.2.1, fun s hs => hb.2.2 _ (hn s hs)⟩
  have ht : TabLike (fun _ => True) σ.o σ.o κ κ w w := fun τ _ => ⟨Like.refl _, rfl, fun _ b _ cur e f hb => ⟨cur, hb, rfl⟩⟩
  refine ⟨hi.kept, hi.glob, fun s b h hb => hi.own _ b (hn s h) hb, fun s s' b h h' hb hb' => ?_, fun s ob h => ?_, fun s => ?_⟩
  · have := hi.inj _ _ b (hn s h) (hn s' h') hb hb'
    have := congrArg (Abs.sw x y) this
    rwa [sw_sw, sw_sw] at this
  · have h' : (σ.o (Abs.sw x y s)).map (O.sw x y) = some ob := h
    simp only [Option.map_eq_some_iff] at h'
    obtain ⟨ob0, h0, rfl⟩ := h'
    have := (hi.objs _ ob0 h0).mono (Z' := Zof w0 Z0 (fun s => κ (Abs.sw x y s)) (σ.sw x y).o w) hself hsub ht rfl (fun _ _ => rfl) (fun _ _ => trivial)
    cases ob0 with
    | var e row =>
      obtain ⟨b, cur, h1, h2, h3⟩ := this
      exact ⟨b, cur, h1, h2, h3.sw⟩
    | arr e sz nl rows => exact this
  · exact ((hi.tmps s).mono hself hsub ht (fun _ _ => trivial)).sw
end sw
theorem ownNil_le {τ A e sz z : Nat} {e' : TypeId} (hτ : σ.o τ = some (.var e' [.c (.list z (some true) [])])) (hA : σ.noA A) : σ.le (σ.ownNil τ A e sz e') := by
  intro w0 Z0 κ fr w hi
  obtain ⟨hA0, hA1, hA2⟩ := hA
  have hne : τ ≠ A := by rintro rfl; rw [hA0] at hτ; cases hτ
  refine ⟨fun s => if s = A then none else κ s, ?_⟩
  have ho : ∀ s, s ≠ A → s ≠ τ → (σ.ownNil τ A e sz e').o s = σ.o s := fun s h1 h2 => by simp [St.ownNil, h1, h2]
  have hn : ∀ s, s ≠ A → (σ.ownNil τ A e sz e').o s ≠ none → σ.o s ≠ none := by
    intro s h1 h
    by_cases h2 : s = τ
    · subst h2; rw [hτ]; simp
    · rw [ho s h1 h2] at h; exact h
  have hsub : ∀ b, Zof w0 Z0 κ σ.o w b → Zof w0 Z0 (fun s => if s = A then none else κ s) (σ.ownNil τ A e sz e').o w b := by
    intro b hb
    refine ⟨hb.1, hb.2.1, fun s hs => ?_⟩
    by_cases h : s = A
    · simp [h]
    · simp only [h, if_false]; exact hb.2.2 s (hn s h hs)
  have hself : Same (Zof w0 Z0 κ σ.o w) w w := fun _ _ => rfl
  have ht : TabLike (fun s => s ≠ A) σ.o (σ.ownNil τ A e sz e').o κ (fun s => if s = A then none else κ s) w w := by
    intro s hs
    refine ⟨?_, by simp [hs], fun _ b _ cur e f hb => ⟨cur, hb, rfl⟩⟩
    by_cases h2 : s = τ
    · subst h2; rw [hτ]; simp [St.ownNil, hs, Like]
    · rw [ho s hs h2]; exact Like.refl _
  refine ⟨hi.kept, hi.glob, fun s b h hb => ?_, fun s s' b h h' hb hb' => ?_, fun s ob h => ?_, fun s => ?_⟩
  · by_cases h1 : s = A
    · simp [h1] at hb
    · simp only [h1, if_false] at hb; exact hi.own s b (hn s h1 h) hb
  · by_cases h1 : s = A
    · simp [h1] at hb
    · by_cases h2 : s' = A
      · simp [h2] at hb'
      · simp only [h1, h2, if_false] at hb hb'
        exact hi.inj s s' b (hn s h1 h) (hn s' h2 h') hb hb'
  · by_cases h1 : s = A
    · subst h1
      simp [St.ownNil] at h
      subst h
      exact .inl ⟨by simp, rfl, by simp⟩
    · by_cases h2 : s = τ
      · subst h2
        simp [St.ownNil, h1] at h
        subst h
        obtain ⟨b, cur, hb, hh, hr⟩ := hi.objs s _ hτ
        refine ⟨b, cur, by simp [h1, hb], hh, hr.1, fun j k v hk hv => ?_⟩
        cases j with
        | succ j => simp at hk
        | zero =>
          simp at hk
          subst hk
          obtain ⟨hone, hrep⟩ := hr.2 0 _ v rfl hv
          refine ⟨hone, fun e2 sz2 nl2 rows2 _ => .inl ⟨by simp, ?_⟩⟩
          have hrep' : PRep w (Zof w0 Z0 κ σ.o w) (.list z (some true) []) v := hrep
          generalize hnl : (some true : Option Bool) = nl at hrep'
          generalize hrw : ([] : List (List C)) = rw0 at hrep'
          cases hrep' with
          | nil => rfl
          | emp _ _ a h => exact absurd hnl.symm h
          | list _ _ _ _ _ _ _ h => exact absurd hnl.symm h
      · rw [ho s h1 h2] at h
        exact (hi.objs s ob h).mono hself hsub ht (by simp [h1]) (fun _ _ => rfl) (fun τ' hτ' => by rintro rfl; rw [hA2 s ob h] at hτ'; cases hτ')
  · exact (hi.tmps s).mono hself hsub ht (fun τ' hτ' => by rintro rfl; rw [hA1 s] at hτ'; cases hτ')
theorem Wk.trans {K : St → Prop} {σ' : St} (h : σ.le σ') (hk : Wk K σ') : Wk K σ := by
  obtain ⟨σ2, h2, h3⟩ := hk
  refine ⟨σ2, fun w0 Z0 κ fr w hi => ?_, h3⟩
  obtain ⟨κ', hi'⟩ := h w0 Z0 κ fr w hi
  exact h2 w0 Z0 κ' fr w hi'
theorem Wk.mono {K K' : St → Prop} (hk : ∀ σ, K σ → K' σ) (h : Wk K σ) : Wk K' σ := let ⟨σ', h1, h2⟩ := h; ⟨σ', h1, hk _ h2⟩
theorem Wk.in {K : St → Prop} (h : K σ) : Wk K σ := ⟨σ, fun _ _ κ _ _ h => ⟨κ, h⟩, h⟩
theorem Wk.bind {K K' : St → Prop} (h : Wk K σ) (hk : ∀ σ, K σ → Wk K' σ) : Wk K' σ := let ⟨_, h1, h2⟩ := h; Wk.trans h1 (hk _ h2)
theorem wpAI_mono {i : AI} {K K' : St → Prop} (hk : ∀ σ, K σ → K' σ) (h : wpAI P i K σ) : wpAI P i K' σ := by
  obtain ⟨g, op⟩ := i
  cases g with
  | none => exact exOp_mono hk h
  | some sw =>
    obtain ⟨s, want⟩ := sw
    simp only [wpAI] at h ⊢
    split at h
    · rename_i hb; exact ⟨fun hq => exOp_mono hk (h.1 hq), fun hq => hk _ (h.2 hq)⟩
    · exact hk _ h
    · exact h.elim
theorem wpAIs_mono : ∀ {l : List AI} {K K' : St → Prop} {σ : St}, (∀ σ, K σ → K' σ) → wpAIs P l K σ → wpAIs P l K' σ
  | [], _, _, σ, hk, h => hk σ h
  | i :: l, K, K', σ, hk, h => wpAI_mono (fun σ h => wpAIs_mono hk h) h
theorem wpT_mono : ∀ {t : DT} {K K' : St → Prop} {σ : St}, (∀ σ, K σ → K' σ) → wpT P t K σ → wpT P t K' σ
  | .done, _, _, σ, hk, h => hk σ h
  | .fail, _, _, σ, hk, h => h
  | .top, _, _, σ, hk, h => trivial
  | .one i t, K, K', σ, hk, h => wpQ_mono (fun σ h => wpT_mono (t := t) hk h) h
  | .alt a b, K, K', σ, hk, h => ⟨wpT_mono (t := a) hk h.1, wpT_mono (t := b) hk h.2⟩
theorem then_mono {A B : St → Prop} {Q Q' : AE → St → Prop} (h1 : ∀ σ, A σ → B σ) (h2 : ∀ e σ, Q e σ → Q' e σ) : ∀ e σ, AE.then A Q e σ → AE.then B Q' e σ := by
  intro e σ h
  cases e with
  | normal => exact h1 σ h
  | exit i => exact h2 _ σ h
  | ret => exact h2 _ σ h
theorem inBlock_mono {id : Nat} {Q Q' : AE → St → Prop} (h2 : ∀ e σ, Q e σ → Q' e σ) : ∀ e σ, AE.inBlock id Q e σ → AE.inBlock id Q' e σ := by
  intro e σ h
  cases e with
  | normal => exact h2 _ σ h
  | exit i =>
    simp only [AE.inBlock] at h ⊢
    split
    · rename_i hi; rw [if_pos hi] at h; exact h2 _ σ h
    · rename_i hi; rw [if_neg hi] at h; exact h2 _ σ h
  | ret => exact h2 _ σ h
theorem awp_mono (c : AC) : ∀ {Q Q' : AE → St → Prop} {σ : St}, (∀ e σ, Q e σ → Q' e σ) → awp P c Q σ → awp P c Q' σ := by
  induction c with
  | skip => intro Q Q' σ hq h; exact hq _ σ h
  | region l => intro Q Q' σ hq h; exact wpAIs_mono (hq .normal) h
  | draw l p => intro Q Q' σ hq h; exact Or.imp (fun h => ⟨h.1, wpQs_mono (hq .normal) h.2⟩) (fun h => wpT_mono (hq .normal) h) h
  | seq a b iha ihb =>
    intro Q Q' σ hq h
    exact iha (then_mono (fun σ h => Wk.mono (fun σ h => ihb hq h) h) hq) h
  | cond c a b iha ihb =>
    intro Q Q' σ hq h
    simp only [awp, AX.evg] at h ⊢
    refine ⟨h.1, ?_⟩
    have h2 := h.2
    generalize (AX.ev σ c).strip.1 = v at h2 ⊢
    split at h2
    · exact ⟨fun ht => Wk.mono (fun σ h => iha hq h) (h2.1 ht), fun ht => Wk.mono (fun σ h => ihb hq h) (h2.2 ht)⟩
    · exact h2.elim
  | block i a ih =>
    intro Q Q' σ hq h
    exact Wk.mono (fun σ h => ih (inBlock_mono hq) h) h
  | loop a ih =>
    intro Q Q' σ hq h
    obtain ⟨I, h0, h1⟩ := h
    exact ⟨I, h0, fun n σ' hI => Wk.mono (fun σ h => ih (then_mono (fun σ h => h) hq) h) (h1 n σ' hI)⟩
  | exit i => intro Q Q' σ hq h; exact hq _ σ h
  | ret => intro Q Q' σ hq h; exact hq _ σ h
theorem awq_sound (c : AQ) : c.ok = true → ∀ {Q : AE → St → Prop} {σ : St}, awq P c Q σ → Wk (awp P c.erase (fun e => Wk (Q e))) σ := by
  induction c with
  | skip => intro _ Q σ h; exact .in (.in h)
  | region l => intro _ Q σ h; exact .in (wpAIs_mono (fun _ h => .in h) h)
  | draw l p => intro hok Q σ h; exact .in (.inl ⟨hok, wpQs_mono (fun _ h => .in h) h⟩)
  | tree l p => intro _ Q σ h; exact .in (.inr (wpT_mono (fun _ h => .in h) h))
  | seq a b iha ihb =>
    intro hok Q σ h
    simp only [AQ.ok, Bool.and_eq_true] at hok
    refine Wk.mono (fun τ ht => awp_mono a.erase (Q' := AE.then (Wk (awp P b.erase fun e => Wk (Q e))) fun e => Wk (Q e)) (fun e σ h => ?_) ht) (iha hok.1 h)
    cases e with
    | normal => exact Wk.bind h (fun σ h => ihb hok.2 h)
    | exit i => exact h
    | ret => exact h
  | cond c a b iha ihb =>
    intro hok Q σ h
    simp only [AQ.ok, Bool.and_eq_true] at hok
    simp only [awq, AX.evg] at h
    refine .in ?_
    simp only [AQ.erase, awp, AX.evg]
    refine ⟨h.1, ?_⟩
    have h2 := h.2
    generalize (AX.ev σ c).strip.1 = v at h2 ⊢
    split at h2
    · exact ⟨fun ht => iha hok.1 (h2.1 ht), fun ht => ihb hok.2 (h2.2 ht)⟩
    · exact h2.elim
  | block i a ih =>
    intro hok Q σ h
    refine .in (Wk.mono (fun τ ht => awp_mono a.erase (Q' := AE.inBlock i fun e => Wk (Q e)) (fun e σ h => ?_) ht) (ih hok h))
    cases e with
    | normal => exact h
    | exit j =>
      have e1 : AE.inBlock i Q (.exit j) = if j = i then Q .normal else Q (.exit j) := by funext σ; simp only [AE.inBlock]; split <;> rfl
      rw [e1] at h
      simp only [AE.inBlock]
      split
      · rename_i hi; rw [if_pos hi] at h; exact h
      · rename_i hi; rw [if_neg hi] at h; exact h
    | ret => exact h
  | loop L M a ih =>
    intro hok Q σ h
    obtain ⟨I, h0, h1⟩ := h
    refine .in ⟨I, Wk.trans (keep_le σ L M) (.in h0), fun n σ' hI => Wk.mono (fun τ ht => awp_mono a.erase (Q' := AE.then (Wk fun σ'' => ∃ m, m < n ∧ I m σ'') fun e => Wk (Q e)) (fun e σ h => ?_) ht) (ih hok (h1 n σ' hI))⟩
    cases e with
    | normal =>
      have h' : Wk (fun τ => ∃ m, m < n ∧ I m (τ.keep L M)) σ := h
      exact Wk.bind h' (fun τ ht => Wk.trans (keep_le τ L M) (.in ht))
    | exit j => exact h
    | ret => exact h
  | exit i => intro _ Q σ h; exact .in (.in h)
  | ret => intro _ Q σ h; exact .in (.in h)
  | keep L M a ih => intro hok Q σ h; exact Wk.trans (keep_le σ L M) (ih hok h)
  | own τ A e sz a ih =>
    intro hok Q σ h
    obtain ⟨e', z, h1, h2, h3⟩ := h
    exact Wk.trans (ownNil_le h1 h2) (ih hok h3)
  | swap x y a ih => intro hok Q σ h; exact Wk.trans (sw_le σ x y) (ih hok h)
  | frz τ a ih => intro hok Q σ h; exact Wk.trans (fun _ _ κ _ _ hi => ⟨κ, hi.frz τ⟩) (ih hok h)
theorem Spec.of_awq {f : FuncId} {n : Nat} {c : AQ} {rs : List RX} {args : List V} {S : V → Prop} (hc : cFunc P f = some ⟨n, c.erase, rs⟩) (hok : c.ok = true) (hlen : args.length ≤ n) (h : awq P c (endQ rs S) (St.init args)) : Spec P f args S :=
  Spec.of_cFunc (ac := c.erase) (rs := rs) (n := n) hc hlen (awq_sound c hok (Q := endQ rs S) h)
theorem SpecS.of_awq {f : FuncId} {n : Nat} {c : AQ} {rs : List RX} {args : List V} {o : Nat → Option O} {T : List Nat} {anchors : List (Nat × Nat)} {S : V → (Nat → Option O) → Prop} (hc : cFunc P f = some ⟨n, c.erase, rs⟩) (hok : c.ok = true) (hlen : args.length ≤ n)
    (hav : c.erase.avoids (fun s => anchors.any fun p => p.1 == s) = true) (h : awq P c (endS rs args o T anchors S) ⟨fun s => args.getD s .any, o⟩) : SpecS P f args o (anchors.map (·.2)) S := by
  have h2 := awq_sound c hok h
  have h3 := @SpecS.of_cFunc P f n c.erase rs args o T anchors S hc hlen hav
  with_reducible exact h3 h2
end
end Go.Abs


namespace Go.Abs
abbrev TS := List (Nat × V)
abbrev OS := List (Nat × O)
abbrev KK := TS → OS → Prop
def lookT (s : Nat) : TS → V
  | [] => .any
  | (k, v) :: l => if k = s then v else lookT s l
def lookO (s : Nat) : OS → Option O
  | [] => none
  | (k, v) :: l => if k = s then some v else lookO s l
def insT (s : Nat) (v : V) (l : TS) : TS := (s, v) :: l
theorem lookT_here (s : Nat) (v : V) (l : TS) : lookT s ((s, v) :: l) = v := by simp [lookT]
theorem lookT_next {s k : Nat} (h : (k == s) = false) (v : V) (l : TS) : lookT s ((k, v) :: l) = lookT s l := by
  have : ¬ k = s := by simpa using h
  simp [lookT, this]
def insO (s : Nat) (v : O) (l : OS) : OS := (s, v) :: l
theorem lookO_here (s : Nat) (v : O) (l : OS) : lookO s ((s, v) :: l) = some v := by simp [lookO]
theorem lookO_next {s k : Nat} (h : (k == s) = false) (v : O) (l : OS) : lookO s ((k, v) :: l) = lookO s l := by
  have : ¬ k = s := by simpa using h
  simp [lookO, this]
def mkS (ts : TS) (os : OS) : St := ⟨fun s => lookT s ts, fun s => lookO s os⟩
theorem lookT_ins (d s : Nat) (v : V) (ts : TS) : lookT s (insT d v ts) = if s = d then v else lookT s ts := by
  by_cases h : d = s
  · subst h; simp [insT, lookT]
  · simp [insT, lookT, h, Ne.symm h]
theorem lookO_ins (d s : Nat) (v : O) (os : OS) : lookO s (insO d v os) = if s = d then some v else lookO s os := by
  by_cases h : d = s
  · subst h; simp [insO, lookO]
  · simp [insO, lookO, h, Ne.symm h]
theorem mkS_put (ts : TS) (os : OS) (d : Nat) (v : V) : (mkS ts os).put d v = mkS (insT d v ts) os := by
  simp only [mkS, St.put, St.mk.injEq, and_true]
  funext s; rw [lookT_ins]
theorem mkS_setO (ts : TS) (os : OS) (d : Nat) (v : O) : (mkS ts os).setO d v = mkS ts (insO d v os) := by
  simp only [mkS, St.setO, St.mk.injEq, true_and]
  funext s; rw [lookO_ins]
theorem mkS_new (ts : TS) (os : OS) (d : Nat) (v : O) (x : V) : (mkS ts os).new d v x = mkS (insT d x ts) (insO d v os) := by
  rw [St.new, mkS_setO, mkS_put]
def freeT (d : Nat) : TS → Bool
  | [] => true
  | (k, v) :: l => (k == d || v.noRef d) && freeT d l
def freeO (d : Nat) : OS → Bool
  | [] => true
  | (k, v) :: l => (k == d || v.noRef d) && freeO d l
theorem mkS_Free {ts : TS} {os : OS} {d : Nat} (h1 : freeT d ts = true) (h2 : freeO d os = true) : (mkS ts os).Free d := by
  constructor
  · intro s hs
    show (lookT s ts).noRef d = true
    induction ts with
    | nil => rfl
    | cons p l ih =>
      obtain ⟨k, v⟩ := p
      simp only [freeT, Bool.and_eq_true, Bool.or_eq_true, beq_iff_eq] at h1
      simp only [lookT]
      split
      · rename_i hk; subst hk
        rcases h1.1 with h | h
        · exact absurd h hs
        · exact h
      · exact ih h1.2
  · intro τ ob hob hτ
    have hob' : lookO τ os = some ob := hob
    clear hob
    induction os with
    | nil => simp [lookO] at hob'
    | cons p l ih =>
      obtain ⟨k, v⟩ := p
      simp only [freeO, Bool.and_eq_true, Bool.or_eq_true, beq_iff_eq] at h2
      simp only [lookO] at hob'
      split at hob'
      · rename_i hk; subst hk
        cases hob'
        rcases h2.1 with h | h
        · exact absurd h hτ
        · exact h
      · exact ih h2.2 hob'
def mapT (f : V → V) : TS → TS
  | [] => []
  | (k, v) :: l => (k, f v) :: mapT f l
def mapO (f : O → O) : OS → OS
  | [] => []
  | (k, v) :: l => (k, f v) :: mapO f l
def delO (τ : Nat) : OS → OS
  | [] => []
  | (k, v) :: l => if k = τ then delO τ l else (k, v) :: delO τ l
theorem lookT_map (f : V → V) (hf : f .any = .any) (s : Nat) : ∀ (ts : TS), lookT s (mapT f ts) = f (lookT s ts)
  | [] => hf.symm
  | (k, v) :: l => by
    simp only [mapT, lookT, lookT_map f hf s l]
    split <;> rfl
theorem lookO_map (f : O → O) (s : Nat) : ∀ (os : OS), lookO s (mapO f os) = (lookO s os).map f
  | [] => rfl
  | (k, v) :: l => by
    simp only [mapO, lookO, lookO_map f s l]
    split <;> rfl
theorem lookO_del (τ s : Nat) : ∀ (os : OS), lookO s (delO τ os) = if s = τ then none else lookO s os
  | [] => by simp [delO, lookO]
  | (k, v) :: l => by
    simp only [delO]
    by_cases h : k = τ
    · subst h
      rw [if_pos rfl, lookO_del k s l]
      by_cases h2 : s = k
      · simp [h2]
      · simp [h2, lookO, Ne.symm h2]
    · rw [if_neg h]
      simp only [lookO, lookO_del τ s l]
      by_cases h2 : k = s
      · subst h2; simp [h]
      · simp [h2]
def frzT (τ : Nat) (ts : TS) (os : OS) : Option O → TS
  | none => ts
  | some ob => mapT (fun v => v.frz τ ob) ts
def frzO (τ : Nat) (os : OS) : Option O → OS
  | none => os
  | some ob => mapO (O.frz τ ob) (delO τ os)
theorem mkS_frz (ts : TS) (os : OS) (τ : Nat) : (mkS ts os).frz τ = mkS (frzT τ ts os (lookO τ os)) (frzO τ os (lookO τ os)) := by
  unfold St.frz
  have e : (mkS ts os).o τ = lookO τ os := rfl
  rw [e]
  cases lookO τ os with
  | none => rfl
  | some ob =>
    simp only [mkS, frzT, frzO, St.mk.injEq]
    constructor
    · funext s; rw [lookT_map _ rfl]
    · funext s
      rw [lookO_map, lookO_del]
      split <;> rfl
def keepT (ts : TS) : List Nat → TS
  | [] => []
  | s :: L => (s, lookT s ts) :: keepT ts L
def addO (m : Nat) (o : Option O) (l : OS) : OS := match o with | some ob => (m, ob) :: l | none => l
def keepO (os : OS) : List Nat → OS
  | [] => []
  | m :: M => addO m (lookO m os) (keepO os M)
theorem lookT_keepT (ts : TS) (s : Nat) : ∀ (L : List Nat), lookT s (keepT ts L) = if L.contains s then lookT s ts else .any
  | [] => by simp [keepT, lookT]
  | k :: L => by
    simp only [keepT, lookT, lookT_keepT ts s L, List.contains_cons]
    by_cases h : k = s
    · subst h; simp
    · simp [h, Ne.symm h]
theorem lookO_keepO (os : OS) (s : Nat) : ∀ (M : List Nat), lookO s (keepO os M) = if M.contains s then lookO s os else none
  | [] => by simp [keepO, lookO]
  | k :: M => by
    simp only [keepO, List.contains_cons]
    by_cases h : k = s
    · subst h
      cases ho : lookO k os with
      | none => simp only [addO]; rw [lookO_keepO os k M, ho]; simp
      | some ob => simp [addO, lookO]
    · cases ho : lookO k os with
      | none => simp only [addO]; rw [lookO_keepO os s M]; simp [Ne.symm h]
      | some ob => simp only [addO, lookO, if_neg h]; rw [lookO_keepO os s M]; simp [Ne.symm h]
theorem mkS_keep (ts : TS) (os : OS) (L M : List Nat) : (mkS ts os).keep L M = mkS (keepT ts L) (keepO os M) := by
  simp only [St.keep, mkS, St.mk.injEq]
  constructor
  · funext s; rw [lookT_keepT]
  · funext s; rw [lookO_keepO]; rfl
theorem mkS_nrm (ts : TS) (os : OS) : (mkS ts os).nrm = mkS (mapT V.nrm ts) (mapO O.nrm os) := by
  simp only [St.nrm, mkS, St.mk.injEq]
  constructor
  · funext s; rw [lookT_map _ rfl]
  · funext s; rw [lookO_map]
def initT : Nat → List V → TS
  | _, [] => []
  | k, v :: l => (k, v) :: initT (k + 1) l
theorem lookT_init : ∀ (l : List V) (k s : Nat), lookT s (initT k l) = if k ≤ s then l.getD (s - k) .any else .any
  | [], k, s => by simp [initT, lookT]
  | v :: l, k, s => by
    simp only [initT, lookT]
    by_cases h : k = s
    · subst h; simp
    · rw [if_neg h, lookT_init l (k + 1) s]
      by_cases h2 : k ≤ s
      · rw [if_pos h2, if_pos (by omega)]
        have : s - k = (s - (k + 1)) + 1 := by omega
        rw [this]; simp
      · rw [if_neg h2, if_neg (by omega)]
theorem init_mkS (args : List V) (os : OS) : (⟨fun s => args.getD s .any, fun s => lookO s os⟩ : St) = mkS (initT 0 args) os := by
  simp only [mkS, St.mk.injEq, and_true]
  funext s; rw [lookT_init]; simp
def onS (K : KK) (σ : St) : Prop := ∃ ts os, σ = mkS ts os ∧ K ts os
theorem onS_mk {K : KK} {ts : TS} {os : OS} (h : K ts os) : onS K (mkS ts os) := ⟨ts, os, rfl, h⟩
def look (ts : TS) : AX → V
  | .t s => lookT s ts
  | .v v => v
theorem look_ev (ts : TS) (os : OS) (x : AX) : x.ev (mkS ts os) = look ts x := by cases x <;> rfl
def putK (r : Option (Prop × V)) (K : KK) (d : Nat) (ts : TS) (os : OS) : Prop :=
  match r with | some (p, v) => p ∧ K (insT d v ts) os | none => False
def freeB (d : Nat) (ts : TS) (os : OS) : Prop := (freeT d ts && freeO d os) = true
def boxK (v : V) (K : KK) (d e : Nat) (ts : TS) (os : OS) : Prop :=
  match v with
  | .agg r => freeB d ts os ∧ K (insT d (.k (.ptr d 0)) ts) (insO d (.var e (r.map .c)) os)
  | .k x => x.noRef d = true ∧ freeB d ts os ∧ K (insT d (.k (.ptr d 0)) ts) (insO d (.var e [x]) os)
  | .agk r => r.all (Abs.K.noRef d) = true ∧ freeB d ts os ∧ K (insT d (.k (.ptr d 0)) ts) (insO d (.var e r) os)
  | _ => False
def vRow : V → Option (List C)
  | .k (.c x) => some [x]
  | .agg r => some r
  | _ => none
def vLits : List (Nat × V) → Option (List (Nat × List C))
  | [] => some []
  | (i, v) :: ps => match vRow v, vLits ps with
    | some r, some l => some ((i, r) :: l)
    | _, _ => none
def bsK (l : Option (List (Nat × List C))) (K : KK) (d e sz : Nat) (zero : List C) (len : Nat) (ts : TS) (os : OS) : Prop :=
  match l with
  | some l => freeB d ts os ∧ zero.length = sz ∧ (∀ p ∈ l, p.1 < len ∧ p.2.length = sz) ∧
      K (insT d (.k (.own d)) ts) (insO d (.arr e sz (some false) (l.foldl (fun rows p => rows.set p.1 p.2) (List.replicate len zero))) os)
  | none => False
def bsQ (l : Option (List (Nat × List C))) (K : KK) (d sz : Nat) (zero : List C) (len : Nat) (ts : TS) (os : OS) : Prop :=
  match l with
  | some l => zero.length = sz ∧ (∀ p ∈ l, p.1 < len ∧ p.2.length = sz) ∧
      K (insT d (.list sz (some false) (l.foldl (fun rows p => rows.set p.1 p.2) (List.replicate len zero))) ts) os
  | none => False
def stVarK (ob : Option O) (ks : Option (List Abs.K)) (K : KK) (n τ off : Nat) (ts : TS) (os : OS) : Prop :=
  match ob, ks with
  | some (.var e row), some ks => ks.length = n ∧ off + n ≤ row.length ∧ K ts (insO τ (.var e (splice row off ks)) os)
  | _, _ => False
def stArrK (ob : Option O) (r : Option (List C)) (K : KK) (n τ i off : Nat) (ts : TS) (os : OS) : Prop :=
  match ob, r with
  | some (.arr e sz nl rows), some r => r.length = n ∧ off + n ≤ sz ∧ K ts (insO τ (.arr e sz nl (rows.set i (if off = 0 ∧ n = sz then r else splice (rows.getD i []) off r))) os)
  | _, _ => False
def storeK (x y : V) (K : KK) (n : Nat) (ts : TS) (os : OS) : Prop :=
  match x with
  | .k (.ptr τ off) => stVarK (lookO τ os) y.cells K n τ off ts os
  | .k (.elem τ i off) => stArrK (lookO τ os) (vRow y) K n τ i off ts os
  | _ => False
def mkslK (l c : V) (K : KK) (d e sz bytes : Nat) (zero : List C) (ts : TS) (os : OS) : Prop :=
  match l, c with
  | .k (.c (.int _ l)), .k (.c (.int _ c)) =>
    0 ≤ l ∧ l ≤ c ∧ bytes * c ≤ 281474976710656 ∧ c ≤ 9223372036854775807 ∧ zero.length = sz ∧ freeB d ts os ∧ K (insT d (.k (.own d)) ts) (insO d (.arr e sz (some false) (List.replicate l.toNat zero)) os)
  | _, _ => False
def srcO (sz : Nat) : Option O → Option (Prop × List (List C))
  | some (.arr _ sz' _ rows) => some (sz' = sz, rows)
  | _ => none
def srcV (os : OS) (sz : Nat) : V → Option (Prop × List (List C))
  | .k (.c (.list sz' _ rows)) => some (sz' = sz ∨ rows = [], rows)
  | .k (.own τ) => srcO sz (lookO τ os)
  | _ => none
def appK (ob : Option O) (src : Option (Prop × List (List C))) (K : KK) (d e sz bytes τ : Nat) (ts : TS) (os : OS) : Prop :=
  match ob, src with
  | some (.arr e' sz' nl xs), some (p, ys) => p ∧ e' = e ∧ sz' = sz ∧ xs.length + ys.length ≤ 9223372036854775807 ∧ (xs.length + ys.length) * bytes ≤ 140737488355328 ∧
      K (insT d (.k (.own τ)) (mapT (V.scrub τ) ts)) (insO τ (.arr e sz (nlApp nl ys) (xs ++ ys)) (mapO (O.scrub τ) (delO τ os)))
  | _, _ => False
def appNK (src : Option (Prop × List (List C))) (K : KK) (d e sz bytes : Nat) (ts : TS) (os : OS) : Prop :=
  match src with
  | some (p, ys) => p ∧ freeB d ts os ∧ ys.length ≤ 9223372036854775807 ∧ ys.length * bytes ≤ 140737488355328 ∧ K (insT d (.k (.own d)) ts) (insO d (.arr e sz (nlApp (some true) ys) ys) os)
  | none => False
def appendK (x : V) (src : Option (Prop × List (List C))) (K : KK) (d e sz bytes : Nat) (ts : TS) (os : OS) : Prop :=
  match x with
  | .k (.own τ) => appK (lookO τ os) src K d e sz bytes τ ts os
  | .k (.c (.list _ (some true) [])) => appNK src K d e sz bytes ts os
  | _ => False
def lendO : Option O → V
  | some (.arr _ sz nl rows) => .list sz nl rows
  | _ => .any
def lendL (os : OS) : V → V
  | .k (.own τ) => lendO (lookO τ os)
  | v => v
theorem lendL_eq (ts : TS) (os : OS) (v : V) : v.lend (mkS ts os) = lendL os v := by
  unfold V.lend lendL
  split
  · show (match lookO _ os with | some (.arr _ sz nl rows) => V.list sz nl rows | _ => .any) = _
    unfold lendO
    rfl
  · rename_i h
    split
    · exact absurd rfl (h _)
    · rfl
def freesL (d n : Nat) (ts : TS) (os : OS) : Nat → Prop
  | 0 => True
  | k + 1 => (freeB n ts os ∧ (n = d ∨ (lookT n ts).noRef n = true)) ∧ freesL d (n + 1) ts os k
def addsL (n : Nat) : List O → OS → OS
  | [], os => os
  | ob :: l, os => addsL (n + 1) l (insO n ob os)
def regK (r : V × List O) (K : KK) (d n : Nat) (ts : TS) (os : OS) : Prop :=
  freesL d n ts os r.2.length ∧ K (insT d r.1 ts) (addsL n r.2 os)
def retK (r : V) (K : KK) (ts : TS) (os : OS) : Option Nat → Prop
  | none => K ts os
  | some d => regK (r.reg (regN d r)) K d (regN d r) ts os
def putDK (r : V) (K : KK) (ts : TS) (os : OS) : Option Nat → Prop
  | none => K ts os
  | some d => K (insT d r ts) os
def callK (P : Program) (f : FuncId) (vs : List V) (cs : List C) (K : KK) (d : Option Nat) (ts : TS) (os : OS) : Prop :=
  vs.all (fun v => (lendL os v).isPure) = true ∧ ∃ r, (Spec P f (vs.map (fun v => (lendL os v).norm) ++ cs.map fun c => .k (.c c.norm)) (fun r' => r' = r) ∨ (cs = [] ∧ Spec P f (vs.map (lendL os)) (fun r' => r' = r))) ∧
    (if r.scalar = true then putDK r K ts os d else vs.all (fun v => v.toks.isEmpty) = true ∧ retK r K ts os d)
def callvK (P : Program) (x : V) (vs : List V) (K : KK) (d : Option Nat) (ts : TS) (os : OS) : Prop :=
  match x with
  | .k (.c (.fn f cs)) => callK P f vs cs K d ts os
  | _ => False
def callQK (P : Program) (f : FuncId) (vs : List V) (cs : List C) (K : KK) (d : Nat) (ts : TS) (os : OS) : Prop :=
  vs.all (fun v => (lendL os v).isPure) = true ∧ ∃ r, Spec P f (vs.map (fun v => (lendL os v).norm) ++ cs.map fun c => .k (.c c.norm)) (fun r' => r' = r) ∧
    (r.scalar = true ∨ vs.all (fun v => v.toks.isEmpty) = true) ∧ K (insT d r.fz ts) os
def callvQK (P : Program) (x : V) (vs : List V) (K : KK) (d : Nat) (ts : TS) (os : OS) : Prop :=
  match x with
  | .k (.c (.fn f cs)) => callQK P f vs cs K d ts os
  | _ => False
def callSK (P : Program) (f : FuncId) (vs : List V) (caps : List Cap) (K : KK) (d : Option Nat) (ts : TS) (os : OS) : Prop :=
  ∃ (T A dead : List Nat) (S : V → (Nat → Option O) → Prop),
    ((vs ++ caps.map capV).all (V.within T) = true) ∧ (caps.all (Cap.live (fun s => lookO s os)) = true) ∧ (∀ τ, τ ∈ T → ∀ ob, lookO τ os = some ob → ob.within T = true) ∧
    (∀ τ, τ ∈ T → τ ∈ A ∨ τ ∈ dead) ∧
    SpecS P f ((vs ++ caps.map capV).map V.nrm) (tabIn T fun τ => (lookO τ os).map O.nrm) A S ∧
    ∀ r o', S r o' → (∀ τ, τ ∉ T → o' τ = none) ∧ r.within T = true ∧ (∀ τ ob, o' τ = some ob → ob.within T = true) ∧ onS K (putD ((mkS ts os).back T dead o') d r)
def plainO : Option O → Prop
  | some (.var _ row) => row.flatMap Abs.K.toks = []
  | _ => True
def callFK (P : Program) (f : FuncId) (xs : List AX) (K : KK) (d : Option Nat) (ts : TS) (os : OS) : Prop :=
  ∃ τ, (xs.map (look ts)).flatMap V.hard = [τ] ∧ plainO (lookO τ os) ∧ callK P f (xs.map (look (frzT τ ts os (lookO τ os)))) [] K d (frzT τ ts os (lookO τ os)) (frzO τ os (lookO τ os))
def callOK (P : Program) (f : FuncId) (xs : List AX) (K : KK) (d : Option Nat) (ts : TS) (os : OS) : Prop :=
  (xs.map (look ts)).all (fun v => (lendL os v).isPure) = true ∧ ∃ τ r, Spec P f ((xs.map (look ts)).map fun v => (lendL os v).norm) (fun r' => r' = r) ∧ r.scalar = false ∧
    (xs.map (look ts)).flatMap V.toks = [τ] ∧ plainO (lookO τ os) ∧ retK r K (frzT τ ts os (lookO τ os)) (frzO τ os (lookO τ os)) d
def callSF (P : Program) (f : FuncId) (vs : List V) (xs : List AX) (K : KK) (d : Option Nat) (ts : TS) (os : OS) : Prop :=
  callSK P f vs [] K d ts os ∨ (vs = xs.map (look ts) ∧ (callFK P f xs K d ts os ∨ callOK P f xs K d ts os))
def exL (P : Program) (ts : TS) (os : OS) : AOp → KK → Prop
  | .mov d x, K => K (insT d (look ts x) ts) os
  | .nilL d e sz, K => freeB d ts os ∧ K (insT d (.k (.own d)) ts) (insO d (.arr e sz (some true) []) os)
  | .pick d c a b, K => putK (vPick (look ts c) (look ts a) (look ts b)) K d ts os
  | .alloc d e zero, K => freeB d ts os ∧ K (insT d (.k (.ptr d 0)) ts) (insO d (.var e (zero.map .c)) os)
  | .box d e x, K => boxK (look ts x) K d e ts os
  | .build d zero ps, K => putK (rowV (vBuild (ps.map fun p => (p.1, p.2.1, look ts p.2.2)) (zero.map .c))) K d ts os
  | .bslice d e sz zero len ps, K => bsK (vLits (ps.map fun p => (p.1, look ts p.2))) K d e sz zero len ts os
  | .load d n agg x, K => putK (vLoad (fun s => lookO s os) n agg (look ts x)) K d ts os
  | .store n x y, K => storeK (look ts x) (look ts y) K n ts os
  | .nilchk d x, K => putK (nilchkO (fun s => lookO s os) (look ts x)) K d ts os
  | .bin d op x y, K => putK (vBin op (look ts x) (look ts y)) K d ts os
  | .binB d neg x y, K => putK (vBinB neg (look ts x) (look ts y)) K d ts os
  | .eqAgg d neg tys x y, K => putK (vEqAgg neg tys (look ts x) (look ts y)) K d ts os
  | .nilcmp d neg x, K => putK (vNil (fun s => lookO s os) neg (look ts x)) K d ts os
  | .un d op x, K => putK (vUn op (look ts x)) K d ts os
  | .conv d k x, K => putK (vConv k (look ts x)) K d ts os
  | .mkfn d f caps, K => putK (fnV f (vCaps (fun s => lookO s os) (caps.map (look ts)))) K d ts os
  | .mkslice d e sz bytes zero l c, K => mkslK (look ts l) (look ts c) K d e sz bytes zero ts os
  | .slice d sz x lo hi, K => (look ts x).toks = [] ∧ putK (vSlice sz (lo.map (look ts)) (hi.map (look ts)) (look ts x)) K d ts os
  | .slstr d x lo hi, K => putK (vSlstr (lo.map (look ts)) (hi.map (look ts)) (look ts x)) K d ts os
  | .faddr d off x, K => putK (vFaddr (fun s => lookO s os) off (look ts x)) K d ts os
  | .field d off n agg x, K => putK (vField off n agg (look ts x)) K d ts os
  | .iaddr d sz x i, K => putK (vIaddr (fun s => lookO s os) sz (look ts x) (look ts i)) K d ts os
  | .iaddrA d sz len x i, K => putK (vIaddrA (fun s => lookO s os) sz len (look ts x) (look ts i)) K d ts os
  | .sidx d x i, K => putK (vSidx (look ts x) (look ts i)) K d ts os
  | .aidx d sz len agg x i, K => putK (vAidx sz len agg (look ts x) (look ts i)) K d ts os
  | .extr d x i, K => putK (vExtr i (look ts x)) K d ts os
  | .call d f xs, K => callK P f (xs.map (look ts)) [] K d ts os ∨ callSF P f (xs.map (look ts)) xs K d ts os
  | .callv d x xs, K => callvK P (look ts x) (xs.map (look ts)) K d ts os ∨ ∃ f caps, look ts x = .k (.fnk f caps) ∧ callSK P f (xs.map (look ts)) caps K d ts os
  | .len d x, K => putK (vLen (fun s => lookO s os) (look ts x)) K d ts os
  | .lenS d x, K => putK (vLenS (look ts x)) K d ts os
  | .cap _ _, _ => False
  | .append d e sz bytes x y, K => appendK (look ts x) (srcV os sz (look ts y)) K d e sz bytes ts os
  | .minmax d isMax x ys, K => putK (vMinmax isMax (ys.map (look ts)) (look ts x)) K d ts os
section
variable {P : Program} {ts : TS} {os : OS}
theorem putK_on {r : Option (Prop × V)} {K : KK} {d : Nat} (h : putK r K d ts os) : putV r (fun v => onS K ((mkS ts os).put d v)) := by
  cases r with
  | none => exact h.elim
  | some pv =>
    refine ⟨h.1, ?_⟩
    show onS K ((mkS ts os).put d pv.2)
    rw [mkS_put]; exact onS_mk h.2
theorem pureK {op : AOp} {r : Option (Prop × V)} {K : KK} {d : Nat} (he : ∀ k : Nat → V → Prop, pureOp (mkS ts os) true op k = putV r (k d)) (h : putK r K d ts os) : pureOp (mkS ts os) true op (fun d v => onS K ((mkS ts os).put d v)) := by
  rw [he]; exact putK_on h
theorem vRow_toks {v : V} {r : List C} (h : vRow v = some r) : v.toks = [] ∧ v.pure = some r := by
  unfold vRow at h
  split at h
  · exact ⟨rfl, h⟩
  · exact ⟨rfl, h⟩
  · simp at h
theorem lits_on : ∀ {ps : List (Nat × AX)} {l : List (Nat × List C)}, vLits (ps.map fun p => (p.1, look ts p.2)) = some l → ∀ {k : St → List (Nat × List C) → Prop}, k (mkS ts os) l → withPures (mkS ts os) ps k
  | [], l, h, k, hk => by simp [vLits] at h; subst h; exact hk
  | (i, x) :: ps, l, h, k, hk => by
    simp only [List.map_cons, vLits] at h
    split at h
    · rename_i r l' hr hl
      cases h
      obtain ⟨ht, hp⟩ := vRow_toks hr
      simp only [withPures, withPure, V.strip, look_ev, ht, St.frzs, hp, true_and]
      exact lits_on hl hk
    · simp at h
theorem litsQ_on : ∀ {ps : List (Nat × AX)} {l : List (Nat × List C)}, vLits (ps.map fun p => (p.1, look ts p.2)) = some l → ∀ {k : List (Nat × List C) → Prop}, k l → pursP (mkS ts os) ps k
  | [], l, h, k, hk => by simp [vLits] at h; subst h; exact hk
  | (i, x) :: ps, l, h, k, hk => by
    simp only [List.map_cons, vLits] at h
    split at h
    · rename_i r l' hr hl
      cases h
      obtain ⟨ht, hp⟩ := vRow_toks hr
      simp only [pursP, V.strip, look_ev, hp, true_and]
      exact litsQ_on hl hk
    · simp at h
theorem scrub_mk (τ : Nat) : (mkS ts os).scrub τ = mkS (mapT (V.scrub τ) ts) (mapO (O.scrub τ) (delO τ os)) := by
  simp only [mkS, St.scrub, St.mk.injEq]
  constructor
  · funext s; rw [lookT_map _ rfl]
  · funext s; rw [lookO_map, lookO_del]; split <;> rfl
theorem src_on {e sz : Nat} {y : AX} {p : Prop} {ys : List (List C)} (h : srcV os sz (look ts y) = some (p, ys)) (hp : p) {k : List (List C) → Prop} (hk : k ys) : exOp.srcP (mkS ts os) e sz y k := by
  simp only [exOp.srcP, evg_ev, look_ev]
  generalize look ts y = v at h ⊢
  unfold srcV at h
  split at h
  · cases h; exact ⟨hp, hk⟩
  · rename_i τ
    show (match lookO τ os with | some (.arr _ sz' _ rows) => sz' = sz ∧ k rows | _ => False)
    cases ho : lookO τ os with
    | none => rw [ho] at h; simp [srcO] at h
    | some ob =>
      cases ob with
      | var => rw [ho] at h; simp [srcO] at h
      | arr e' sz' nl rows =>
        rw [ho] at h
        simp only [srcO, Option.some.injEq, Prod.mk.injEq] at h
        obtain ⟨rfl, rfl⟩ := h
        exact ⟨hp, hk⟩
  · simp at h
theorem frees_on : ∀ {k d n : Nat}, freesL d n ts os k → frees (mkS ts os) d n k
  | 0, _, _, _ => trivial
  | k + 1, d, n, h => by
    obtain ⟨⟨h1, h2⟩, h3⟩ := h
    simp only [freeB, Bool.and_eq_true] at h1
    exact ⟨⟨mkS_Free h1.1 h1.2, h2⟩, frees_on h3⟩
theorem adds_on : ∀ (obs : List O) (n : Nat) (ts : TS) (os : OS), (mkS ts os).adds n obs = mkS ts (addsL n obs os)
  | [], n, ts, os => rfl
  | ob :: l, n, ts, os => by
    simp only [St.adds, addsL, mkS_setO]
    exact adds_on l (n + 1) ts _
theorem call_on {f : FuncId} {xs : List AX} {cs : List C} {K : KK} {d : Option Nat} (h : callK P f (xs.map (look ts)) cs K d ts os) : callP P ((mkS ts os)) d f xs cs (onS K) := by
  obtain ⟨h1, r, h2, h3⟩ := h
  simp only [List.all_map, List.all_eq_true, Function.comp] at h1
  refine ⟨fun _ _ => rfl, fun x hx => ?_, (fun r' => r' = r), ?_, ?_⟩
  · simp only [V.strip, look_ev, lendL_eq]; exact h1 x hx
  · simp only [V.strip, look_ev, lendL_eq]
    rw [List.map_map, List.map_map] at h2; exact h2
  · rintro r' rfl
    split
    · rename_i hs
      rw [if_pos hs] at h3
      cases d with
      | none => exact onS_mk h3
      | some d => exact ⟨_, _, mkS_put ts os d r', h3⟩
    · rename_i hs
      rw [if_neg hs] at h3
      have ht : (xs.flatMap fun x => (x.ev (mkS ts os)).strip.1.toks) = [] := by
        refine List.flatMap_eq_nil_iff.2 fun x hx => ?_
        have := h3.1
        simp only [List.all_map, List.all_eq_true, Function.comp, List.isEmpty_iff] at this
        simp only [V.strip, look_ev]
        exact this x hx
      rw [ht]
      show retP (mkS ts os) d r' (onS K)
      cases d with
      | none => exact onS_mk h3.2
      | some d =>
        refine ⟨frees_on h3.2.1, ?_⟩
        rw [adds_on, mkS_put]
        exact onS_mk h3.2.2
theorem frzs_on {τ : Nat} (h2 : plainO (lookO τ os)) : (mkS ts os).frzs [τ] = mkS (frzT τ ts os (lookO τ os)) (frzO τ os (lookO τ os)) := by
  have e : (mkS ts os).o τ = lookO τ os := rfl
  have hf : (mkS ts os).frzs [τ] = (mkS ts os).frz τ := by
    simp only [St.frzs, e]
    unfold plainO at h2
    split
    · rename_i e' row ho
      rw [ho] at h2
      simp only [] at h2
      rw [h2]; rfl
    · rfl
  rw [hf, mkS_frz]
theorem callO_on {f : FuncId} {xs : List AX} {K : KK} {d : Option Nat} {τ : Nat} {r : V} (h1 : (xs.map (look ts)).all (fun v => (lendL os v).isPure) = true) (h2 : Spec P f ((xs.map (look ts)).map fun v => (lendL os v).norm) (fun r' => r' = r))
    (h3 : r.scalar = false) (h4 : (xs.map (look ts)).flatMap V.toks = [τ]) (h5 : plainO (lookO τ os)) (h : retK r K (frzT τ ts os (lookO τ os)) (frzO τ os (lookO τ os)) d) : callP P (mkS ts os) d f xs [] (onS K) := by
  simp only [List.all_map, List.all_eq_true, Function.comp] at h1
  refine ⟨fun _ _ => rfl, fun x hx => ?_, (fun r' => r' = r), .inl ?_, ?_⟩
  · simp only [V.strip, look_ev, lendL_eq]; exact h1 x hx
  · simp only [V.strip, look_ev, lendL_eq, List.map_nil, List.append_nil]
    rw [List.map_map] at h2; exact h2
  · rintro r' rfl
    rw [if_neg (by simp [h3])]
    have ht : (xs.flatMap fun x => (x.ev (mkS ts os)).strip.1.toks) = [τ] := by
      rw [← h4, List.flatMap_map]
      simp [V.strip, look_ev]
    rw [ht, frzs_on h5]
    show retP (mkS _ _) d r' (onS K)
    cases d with
    | none => exact onS_mk h
    | some d =>
      refine ⟨frees_on h.1, ?_⟩
      rw [adds_on, mkS_put]
      exact onS_mk h.2
theorem callQ_on {f : FuncId} {xs : List AX} {cs : List C} {K : KK} {d : Nat} (h : callQK P f (xs.map (look ts)) cs K d ts os) : callQ P (mkS ts os) d f xs cs (onS K) := by
  obtain ⟨h1, r, h2, h3, h4⟩ := h
  simp only [List.all_map, List.all_eq_true, Function.comp] at h1
  refine ⟨fun _ _ => rfl, fun x hx => ?_, r, ?_, ?_, by rw [mkS_put]; exact onS_mk h4⟩
  · simp only [V.strip, look_ev, lendL_eq]; exact h1 x hx
  · simp only [V.strip, look_ev, lendL_eq]
    rw [List.map_map] at h2; exact h2
  · rcases h3 with h3 | h3
    · exact .inl h3
    · refine .inr fun x hx => ?_
      simp only [List.all_map, List.all_eq_true, Function.comp, List.isEmpty_iff] at h3
      simp only [V.strip, look_ev]
      exact h3 x hx
theorem callS_on {f : FuncId} {xs : List AX} {caps : List Cap} {K : KK} {d : Option Nat} (h : callSK P f (xs.map (look ts)) caps K d ts os) : callS P (mkS ts os) d f xs caps (onS K) := by
  obtain ⟨T, A, dead, S, h1, h2, h3, h4, h5, h6⟩ := h
  have e : xs.map (fun x => x.ev (mkS ts os)) = xs.map (look ts) := List.map_congr_left fun x _ => look_ev ts os x
  refine ⟨T, A, dead, S, ?_, h2, h3, h4, ?_, h6⟩
  · rw [e]; exact h1
  · rw [e]; exact h5
theorem pure_hard {v : V} (h : (lendL os v).isPure = true) : v.hard = [] := by
  cases v with
  | k x => cases x with
    | own τ => rfl
    | c x => rfl
    | _ => simp [lendL, V.isPure] at h
  | agg => rfl
  | _ => simp [lendL, V.isPure] at h
theorem free_on {d : Nat} (h : freeB d ts os) : (mkS ts os).Free d := by
  simp only [freeB, Bool.and_eq_true] at h
  exact mkS_Free h.1 h.2
theorem exL_sound {op : AOp} {K : KK} (h : exL P ts os op K) : exOp P (mkS ts os) op (onS K) := by
  cases op
  case mov d x =>
    show onS K ((mkS ts os).put d (x.ev (mkS ts os)))
    rw [mkS_put, look_ev]; exact onS_mk h
  case nilL d e sz =>
    refine ⟨free_on h.1, ?_⟩
    rw [mkS_new]; exact onS_mk h.2
  case alloc d e zero =>
    refine ⟨free_on h.1, ?_⟩
    rw [mkS_new]; exact onS_mk h.2
  case box d e x =>
    simp only [exOp, evg_ev, look_ev]
    simp only [exL] at h
    generalize look ts x = v at h ⊢
    unfold boxK at h
    split at h
    · refine ⟨free_on h.1, ?_, by rw [mkS_new]; exact onS_mk h.2⟩
      simp [Abs.K.noRef]
    · refine ⟨free_on h.2.1, ?_, by rw [mkS_new]; exact onS_mk h.2.2⟩
      simpa using h.1
    · exact ⟨free_on h.2.1, h.1, by rw [mkS_new]; exact onS_mk h.2.2⟩
    · exact h.elim
  case bslice d e sz zero len ps =>
    simp only [exL] at h
    cases hl : vLits (ps.map fun p => (p.1, look ts p.2)) with
    | none => rw [hl] at h; exact h.elim
    | some l =>
      rw [hl] at h
      exact lits_on hl ⟨free_on h.1, h.2.1, h.2.2.1, by rw [mkS_new]; exact onS_mk h.2.2.2⟩
  case store n x y =>
    simp only [exL] at h
    simp only [exOp, evg_ev, look_ev]
    generalize hv : look ts x = v at h ⊢
    unfold storeK at h
    split at h
    · rename_i τ off
      show (match lookO τ os with | some (.var e row) => _ | _ => False)
      cases ho : lookO τ os with
      | none => rw [ho] at h; exact h.elim
      | some ob =>
        rw [ho] at h
        cases ob with
        | arr => exact h.elim
        | var e row =>
          simp only []
          cases hc : (look ts y).cells with
          | none => rw [hc] at h; exact h.elim
          | some ks =>
            rw [hc] at h
            exact ⟨h.1, h.2.1, by rw [mkS_setO]; exact onS_mk h.2.2⟩
    · rename_i τ i off
      cases hr : vRow (look ts y) with
      | none => rw [hr] at h; unfold stArrK at h; split at h <;> first | exact h.elim | simp_all
      | some r =>
        rw [hr] at h
        obtain ⟨ht, hp⟩ := vRow_toks hr
        simp only [withPure, V.strip, look_ev, ht, St.frzs, hp, true_and, hv]
        show (match lookO τ os with | some (.arr e sz nl rows) => _ | _ => False)
        cases ho : lookO τ os with
        | none => rw [ho] at h; exact h.elim
        | some ob =>
          rw [ho] at h
          cases ob with
          | var => exact h.elim
          | arr e sz nl rows => exact ⟨h.1, h.2.1, by rw [mkS_setO]; exact onS_mk h.2.2⟩
    · exact h.elim
  case mkslice d e sz bytes zero l c =>
    simp only [exL] at h
    simp only [exOp, evg_ev, look_ev]
    generalize look ts l = v at h ⊢
    generalize look ts c = u at h ⊢
    unfold mkslK at h
    split at h
    · obtain ⟨a1, a2, a3, a4, a5, a6, a7⟩ := h
      exact ⟨a1, a2, a3, a4, a5, free_on a6, by rw [mkS_new]; exact onS_mk a7⟩
    · exact h.elim
  case slice d sz x lo hi =>
    simp only [exL] at h
    simp only [exOp, V.strip, look_ev, h.1, St.frzs]
    refine pureK (fun k => ?_) h.2
    rw [pure_slice, look_ev]
    cases lo <;> cases hi <;> simp [look_ev]
  case append d e sz bytes x y =>
    simp only [exL] at h
    simp only [exOp, evg_ev, look_ev]
    generalize look ts x = v at h ⊢
    unfold appendK at h
    split at h
    · rename_i τ
      unfold appK at h
      split at h
      · rename_i ho hs
        obtain ⟨a0, rfl, rfl, a3, a4, a5⟩ := h
        refine src_on hs a0 ?_
        show (match lookO τ os with | some (.arr e' sz' nl xs) => _ | _ => False)
        rw [ho]
        refine ⟨rfl, rfl, a3, a4, ?_⟩
        rw [scrub_mk, mkS_setO, mkS_put]
        exact onS_mk a5
      · exact h.elim
    · unfold appNK at h
      split at h
      · rename_i hs
        exact src_on hs h.1 ⟨free_on h.2.1, h.2.2.1, h.2.2.2.1, by rw [mkS_new]; exact onS_mk h.2.2.2.2⟩
      · exact h.elim
    · exact h.elim
  case cap => exact h.elim
  case call d f xs =>
    simp only [exL] at h
    rcases h with h | h
    · left
      have hh : (xs.flatMap fun x => (x.ev (mkS ts os)).strip.1.hard) = [] := by
        refine List.flatMap_eq_nil_iff.2 fun x hx => ?_
        have := h.1
        simp only [List.all_map, List.all_eq_true, Function.comp] at this
        simp only [V.strip, look_ev]
        exact pure_hard (this x hx)
      rw [hh]
      exact call_on h
    · rcases h with h | ⟨_, ⟨τ, h1, h2, h⟩ | ⟨h1, τ, r, h2, h3, h4, h5, h⟩⟩
      · exact .inr (callS_on h)
      rotate_left
      · left
        have hh : (xs.flatMap fun x => (x.ev (mkS ts os)).strip.1.hard) = [] := by
          refine List.flatMap_eq_nil_iff.2 fun x hx => ?_
          simp only [List.all_map, List.all_eq_true, Function.comp] at h1
          simp only [V.strip, look_ev]
          exact pure_hard (h1 x hx)
        rw [hh]
        exact callO_on h1 h2 h3 h4 h5 h
      · left
        have hh : (xs.flatMap fun x => (x.ev (mkS ts os)).strip.1.hard) = [τ] := by
          rw [← h1, List.flatMap_map]
          simp [V.strip, look_ev]
        have hf : (mkS ts os).frzs [τ] = (mkS ts os).frz τ := by
          have e : (mkS ts os).o τ = lookO τ os := rfl
          simp only [St.frzs, e]
          unfold plainO at h2
          split
          · rename_i e' row ho
            rw [ho] at h2
            simp only [] at h2
            rw [h2]; rfl
          · rfl
        rw [hh, hf, mkS_frz]
        exact call_on h
  case callv d x xs =>
    simp only [exL] at h
    rcases h with h | ⟨f, caps, h1, h⟩
    · right
      unfold callvK at h
      split at h
      · rename_i f cs hx
        have hh : (xs.flatMap fun x => (x.ev (mkS ts os)).strip.1.hard) = [] := by
          refine List.flatMap_eq_nil_iff.2 fun x hx => ?_
          have := h.1
          simp only [List.all_map, List.all_eq_true, Function.comp] at this
          simp only [V.strip, look_ev]
          exact pure_hard (this x hx)
        have ht : (x.ev (mkS ts os)).strip.1.toks ++ (xs.flatMap fun x => (x.ev (mkS ts os)).strip.1.hard) = [] := by
          rw [hh]; simp [V.strip, look_ev, hx, V.toks, Abs.K.toks]
        rw [ht]
        simp only [St.frzs, V.strip, look_ev, hx]
        exact ⟨trivial, call_on h⟩
      · exact h.elim
    · exact .inl ⟨f, caps, by rw [look_ev]; exact h1, callS_on h⟩
  case pick =>
    rw [exOp_plain rfl]
    refine pureK (fun k => ?_) h
    rw [pure_pick]; simp only [look_ev]; try rfl
  case build d zero ps =>
    rw [exOp_plain rfl]
    refine pureK (fun k => ?_) h
    rw [pure_build]; simp only [look_ev]
  case load =>
    rw [exOp_plain rfl]
    refine pureK (fun k => ?_) h
    rw [pure_load]; simp only [look_ev]; try rfl
  case nilchk =>
    rw [exOp_plain rfl]
    refine pureK (fun k => ?_) h
    rw [pure_nilchk]; simp only [look_ev]; try rfl
  case bin =>
    rw [exOp_plain rfl]
    refine pureK (fun k => ?_) h
    rw [pure_bin]; simp only [look_ev]; try rfl
  case binB =>
    rw [exOp_plain rfl]
    refine pureK (fun k => ?_) h
    rw [pure_binB]; simp only [look_ev]; try rfl
  case eqAgg =>
    rw [exOp_plain rfl]
    refine pureK (fun k => ?_) h
    rw [pure_eqAgg]; simp only [look_ev]; try rfl
  case nilcmp =>
    rw [exOp_plain rfl]
    refine pureK (fun k => ?_) h
    rw [pure_nilcmp]; simp only [look_ev]; try rfl
  case un =>
    rw [exOp_plain rfl]
    refine pureK (fun k => ?_) h
    rw [pure_un]; simp only [look_ev]; try rfl
  case conv =>
    rw [exOp_plain rfl]
    refine pureK (fun k => ?_) h
    rw [pure_conv]; simp only [look_ev]; try rfl
  case mkfn =>
    rw [exOp_plain rfl]
    refine pureK (fun k => ?_) h
    rw [pure_mkfn]; simp only [look_ev]; try rfl
  case slstr d x lo hi =>
    rw [exOp_plain rfl]
    refine pureK (fun k => ?_) h
    rw [pure_slstr, look_ev]
    cases lo <;> cases hi <;> simp [look_ev]
  case faddr =>
    rw [exOp_plain rfl]
    refine pureK (fun k => ?_) h
    rw [pure_faddr]; simp only [look_ev]; try rfl
  case field =>
    rw [exOp_plain rfl]
    refine pureK (fun k => ?_) h
    rw [pure_field]; simp only [look_ev]; try rfl
  case iaddr =>
    rw [exOp_plain rfl]
    refine pureK (fun k => ?_) h
    rw [pure_iaddr]; simp only [look_ev]; try rfl
  case iaddrA =>
    rw [exOp_plain rfl]
    refine pureK (fun k => ?_) h
    rw [pure_iaddrA]; simp only [look_ev]; try rfl
  case sidx =>
    rw [exOp_plain rfl]
    refine pureK (fun k => ?_) h
    rw [pure_sidx]; simp only [look_ev]; try rfl
  case aidx =>
    rw [exOp_plain rfl]
    refine pureK (fun k => ?_) h
    rw [pure_aidx]; simp only [look_ev]; try rfl
  case extr =>
    rw [exOp_plain rfl]
    refine pureK (fun k => ?_) h
    rw [pure_extr]; simp only [look_ev]; try rfl
  case len =>
    rw [exOp_plain rfl]
    refine pureK (fun k => ?_) h
    rw [pure_len]; simp only [look_ev]; try rfl
  case lenS =>
    rw [exOp_plain rfl]
    refine pureK (fun k => ?_) h
    rw [pure_lenS]; simp only [look_ev]; try rfl
  case minmax =>
    rw [exOp_plain rfl]
    refine pureK (fun k => ?_) h
    rw [pure_minmax]; simp only [look_ev]; try rfl
def exLQ (P : Program) (ts : TS) (os : OS) : AOp → KK → Prop
  | .mov d x, K => K (insT d (look ts x) ts) os
  | .nilL d e sz, K => freeB d ts os ∧ K (insT d (.k (.own d)) ts) (insO d (.arr e sz (some true) []) os)
  | .pick d c a b, K => putK (vPick (look ts c) (look ts a) (look ts b)) K d ts os
  | .alloc d e zero, K => freeB d ts os ∧ K (insT d (.k (.ptr d 0)) ts) (insO d (.var e (zero.map .c)) os)
  | .box d e x, K => boxK (look ts x) K d e ts os
  | .build d zero ps, K => putK (rowV (vBuild (ps.map fun p => (p.1, p.2.1, look ts p.2.2)) (zero.map .c))) K d ts os
  | .bslice d e sz zero 0 ps, K => bsK (vLits (ps.map fun p => (p.1, look ts p.2))) K d e sz zero 0 ts os
  | .bslice d _ sz zero (len + 1) ps, K => bsQ (vLits (ps.map fun p => (p.1, look ts p.2))) K d sz zero (len + 1) ts os
  | .load d n agg x, K => putK (vLoad (fun s => lookO s os) n agg (look ts x)) K d ts os
  | .store n x y, K => storeK (look ts x) (look ts y) K n ts os
  | .nilchk d x, K => putK (nilchkO (fun s => lookO s os) (look ts x)) K d ts os
  | .bin d op x y, K => putK (vBin op (look ts x) (look ts y)) K d ts os
  | .binB d neg x y, K => putK (vBinB neg (look ts x) (look ts y)) K d ts os
  | .eqAgg d neg tys x y, K => putK (vEqAgg neg tys (look ts x) (look ts y)) K d ts os
  | .nilcmp d neg x, K => putK (vNil (fun s => lookO s os) neg (look ts x)) K d ts os
  | .un d op x, K => putK (vUn op (look ts x)) K d ts os
  | .conv d k x, K => putK (vConv k (look ts x)) K d ts os
  | .mkfn d f caps, K => putK (fnV f (vCaps (fun s => lookO s os) (caps.map (look ts)))) K d ts os
  | .mkslice d e sz bytes zero l c, K => mkslK (look ts l) (look ts c) K d e sz bytes zero ts os
  | .slice d sz x lo hi, K => (look ts x).toks = [] ∧ putK (vSlice sz (lo.map (look ts)) (hi.map (look ts)) (look ts x)) K d ts os
  | .slstr d x lo hi, K => putK (vSlstr (lo.map (look ts)) (hi.map (look ts)) (look ts x)) K d ts os
  | .faddr d off x, K => putK (vFaddr (fun s => lookO s os) off (look ts x)) K d ts os
  | .field d off n agg x, K => putK (vField off n agg (look ts x)) K d ts os
  | .iaddr d sz x i, K => putK (vIaddr (fun s => lookO s os) sz (look ts x) (look ts i)) K d ts os
  | .iaddrA d sz len x i, K => putK (vIaddrA (fun s => lookO s os) sz len (look ts x) (look ts i)) K d ts os
  | .sidx d x i, K => putK (vSidx (look ts x) (look ts i)) K d ts os
  | .aidx d sz len agg x i, K => putK (vAidx sz len agg (look ts x) (look ts i)) K d ts os
  | .extr d x i, K => putK (vExtr i (look ts x)) K d ts os
  | .call (some d) f xs, K => callQK P f (xs.map (look ts)) [] K d ts os
  | .call none f xs, K => callK P f (xs.map (look ts)) [] K none ts os ∨ callSF P f (xs.map (look ts)) xs K none ts os
  | .callv (some d) x xs, K => callvQK P (look ts x) (xs.map (look ts)) K d ts os
  | .callv none x xs, K => callvK P (look ts x) (xs.map (look ts)) K none ts os ∨ ∃ f caps, look ts x = .k (.fnk f caps) ∧ callSK P f (xs.map (look ts)) caps K none ts os
  | .len d x, K => putK (vLen (fun s => lookO s os) (look ts x)) K d ts os
  | .lenS d x, K => putK (vLenS (look ts x)) K d ts os
  | .cap _ _, _ => False
  | .append d e sz bytes x y, K => appendK (look ts x) (srcV os sz (look ts y)) K d e sz bytes ts os
  | .minmax d isMax x ys, K => putK (vMinmax isMax (ys.map (look ts)) (look ts x)) K d ts os
theorem exLQ_sound {op : AOp} {K : KK} (h : exLQ P ts os op K) : exOpQ P (mkS ts os) op (onS K) := by
  by_cases hs : op.special = true
  case neg =>
    have he := exOpQ_eq (P := P) (op := op) (by simpa using hs)
    rw [congrFun (congrFun he (mkS ts os)) (onS K)]
    refine exL_sound ?_
    cases op
    case bslice d e sz zero len ps => cases len with
      | zero => exact h
      | succ n => simp [AOp.special] at hs
    case call d f xs => cases d with
      | none => exact h
      | some d => simp [AOp.special] at hs
    case callv d x xs => cases d with
      | none => exact h
      | some d => simp [AOp.special] at hs
    case slice => simp [AOp.special] at hs
    all_goals exact h
  cases op
  case bslice d e sz zero len ps => cases len with
    | zero => simp [AOp.special] at hs
    | succ n =>
      simp only [exLQ] at h
      cases hl : vLits (ps.map fun p => (p.1, look ts p.2)) with
      | none => rw [hl] at h; exact h.elim
      | some l =>
        rw [hl] at h
        exact litsQ_on hl ⟨h.1, h.2.1, by rw [mkS_put]; exact onS_mk h.2.2⟩
  case call d f xs => cases d with
    | none => simp [AOp.special] at hs
    | some d => exact callQ_on h
  case callv d x xs => cases d with
    | none => simp [AOp.special] at hs
    | some d =>
      simp only [exLQ] at h
      unfold callvQK at h
      split at h
      · rename_i f cs hx
        simp only [exOpQ, V.strip, look_ev, hx]
        exact ⟨trivial, callQ_on h⟩
      · exact h.elim
  case slice d sz x lo hi =>
    simp only [exLQ] at h
    refine ⟨by simp only [V.strip, look_ev]; exact h.1, ?_⟩
    refine pureK (fun k => ?_) h.2
    rw [pure_slice, look_ev]
    cases lo <;> cases hi <;> simp [look_ev]
  all_goals simp [AOp.special] at hs
def condB (t : Bool) (A B : KK) (ts1 ts2 : TS) (os : OS) : Prop := match t with | true => A ts1 os | false => B ts2 os
theorem condB_iff (t : Bool) (A B : KK) (ts1 ts2 : TS) (os : OS) : condB t A B ts1 ts2 os = ((t = true → A ts1 os) ∧ (t = false → B ts2 os)) := by cases t <;> simp [condB]
theorem condB_decide (p : Prop) [Decidable p] (A B : KK) (ts1 ts2 : TS) (os : OS) : condB (decide p) A B ts1 ts2 os = ((p → A ts1 os) ∧ (¬p → B ts2 os)) := by rw [condB_iff]; simp
theorem condB_beq {α : Type} [BEq α] [LawfulBEq α] (a b : α) (A B : KK) (ts1 ts2 : TS) (os : OS) : condB (a == b) A B ts1 ts2 os = ((a = b → A ts1 os) ∧ (¬a = b → B ts2 os)) := by rw [condB_iff]; simp
theorem condB_bne {α : Type} [BEq α] [LawfulBEq α] (a b : α) (A B : KK) (ts1 ts2 : TS) (os : OS) : condB (a != b) A B ts1 ts2 os = ((¬a = b → A ts1 os) ∧ (a = b → B ts2 os)) := by rw [condB_iff]; simp
theorem condB_not (t : Bool) (A B : KK) (ts1 ts2 : TS) (os : OS) : condB (!t) A B ts1 ts2 os = condB t B A ts2 ts1 os := by cases t <;> rfl
def exK (P : Program) (op : AOp) (K : KK) : KK := fun ts os => exL P ts os op K
def exKQ (P : Program) (op : AOp) (K : KK) : KK := fun ts os => exLQ P ts os op K
def guardP (v : V) (want : Bool) (A B : KK) (tsY tsN ts : TS) (os : OS) : Prop :=
  match v, want with
  | .k (.c (.bool b)), true => condB b A B tsY tsN os
  | .k (.c (.bool b)), false => condB b B A tsN tsY os
  | .undef, _ => B ts os
  | _, _ => False
def putDL (d : Option Nat) (K : KK) (ts : TS) (os : OS) : Prop := match d with | some d => K (insT d .undef ts) os | none => K ts os
def wpL (P : Program) (i : AI) (K : KK) (ts : TS) (os : OS) : Prop :=
  match i.g with
  | none => exL P ts os i.op K
  | some (s, want) => guardP (lookT s ts) want (exK P i.op K) (putDL i.op.dst K) (insT s (.bool want) ts) (insT s (.bool !want) ts) ts os
def wpLQ (P : Program) (i : AI) (K : KK) (ts : TS) (os : OS) : Prop :=
  match i.g with
  | none => exLQ P ts os i.op K
  | some (s, want) => guardP (lookT s ts) want (exKQ P i.op K) (putDL i.op.dst K) (insT s (.bool want) ts) (insT s (.bool !want) ts) ts os
def wpLs (P : Program) : List AI → KK → KK
  | [], K, ts, os => K ts os
  | i :: l, K, ts, os => wpL P i (wpLs P l K) ts os
def wpLQs (P : Program) : List AI → KK → KK
  | [], K, ts, os => K ts os
  | i :: l, K, ts, os => wpLQ P i (wpLQs P l K) ts os
def wpLT (P : Program) : DT → KK → KK
  | .done, K, ts, os => K ts os
  | .fail, _, _, _ => False
  | .top, _, _, _ => True
  | .one i t, K, ts, os => wpLQ P i (wpLT P t K) ts os
  | .alt a b, K, ts, os => wpLT P a K ts os ∧ wpLT P b K ts os
theorem putDL_on {d : Option Nat} {K : KK} (h : putDL d K ts os) : onS K (putD (mkS ts os) d .undef) := by
  cases d with
  | none => exact onS_mk h
  | some d => exact ⟨_, _, mkS_put ts os d .undef, h⟩
theorem mkS_same {s : Nat} {v : V} (h : lookT s ts = v) : mkS (insT s v ts) os = mkS ts os := by
  simp only [mkS, St.mk.injEq, and_true]
  funext k
  rw [lookT_ins]
  by_cases hk : k = s
  · subst hk; simp [h]
  · simp [hk]
theorem wpL_on {i : AI} {K : KK} (h : wpL P i K ts os) : wpAI P i (onS K) (mkS ts os) := by
  obtain ⟨g, op⟩ := i
  cases g with
  | none => exact exL_sound h
  | some sw =>
    obtain ⟨s, want⟩ := sw
    simp only [wpL] at h
    simp only [wpAI]
    have e : (mkS ts os).t s = lookT s ts := rfl
    rw [e]
    generalize hv : lookT s ts = v at h
    unfold guardP at h
    split at h
    · rename_i b
      rw [condB_iff] at h
      refine ⟨fun hq => ?_, fun hq => ?_⟩
      · have hb : b = true := by simpa using hq
        subst hb
        have := exL_sound (h.1 rfl)
        rw [mkS_same hv] at this; exact this
      · have hb : b = false := by simpa using hq
        subst hb
        have := putDL_on (h.2 rfl)
        rw [Bool.not_true, mkS_same hv] at this; exact this
    · rename_i b
      rw [condB_iff] at h
      refine ⟨fun hq => ?_, fun hq => ?_⟩
      · have hb : b = false := by simpa using hq
        subst hb
        have := exL_sound (h.2 rfl)
        rw [mkS_same hv] at this; exact this
      · have hb : b = true := by simpa using hq
        subst hb
        have := putDL_on (h.1 rfl)
        rw [Bool.not_false, mkS_same hv] at this; exact this
    · exact putDL_on h
    · exact h.elim
theorem wpLQ_on {i : AI} {K : KK} (h : wpLQ P i K ts os) : wpQ P i (onS K) (mkS ts os) := by
  obtain ⟨g, op⟩ := i
  cases g with
  | none => exact exLQ_sound h
  | some sw =>
    obtain ⟨s, want⟩ := sw
    simp only [wpLQ] at h
    simp only [wpQ]
    have e : (mkS ts os).t s = lookT s ts := rfl
    rw [e]
    generalize hv : lookT s ts = v at h
    unfold guardP at h
    split at h
    · rename_i b
      rw [condB_iff] at h
      refine ⟨fun hq => ?_, fun hq => ?_⟩
      · have hb : b = true := by simpa using hq
        subst hb
        have := exLQ_sound (h.1 rfl)
        rw [mkS_same hv] at this; exact this
      · have hb : b = false := by simpa using hq
        subst hb
        have := putDL_on (h.2 rfl)
        rw [Bool.not_true, mkS_same hv] at this; exact this
    · rename_i b
      rw [condB_iff] at h
      refine ⟨fun hq => ?_, fun hq => ?_⟩
      · have hb : b = false := by simpa using hq
        subst hb
        have := exLQ_sound (h.2 rfl)
        rw [mkS_same hv] at this; exact this
      · have hb : b = true := by simpa using hq
        subst hb
        have := putDL_on (h.1 rfl)
        rw [Bool.not_false, mkS_same hv] at this; exact this
    · exact putDL_on h
    · exact h.elim
theorem onS_elim {K : KK} {F : St → Prop} (h : ∀ ts os, K ts os → F (mkS ts os)) : ∀ σ, onS K σ → F σ := by
  rintro σ ⟨ts, os, rfl, hk⟩
  exact h ts os hk
theorem wpLs_on : ∀ {l : List AI} {K : KK} {ts : TS} {os : OS}, wpLs P l K ts os → wpAIs P l (onS K) (mkS ts os)
  | [], K, ts, os, h => onS_mk h
  | i :: l, K, ts, os, h => wpAI_mono (onS_elim fun _ _ h => wpLs_on h) (wpL_on h)
theorem wpLQs_on : ∀ {l : List AI} {K : KK} {ts : TS} {os : OS}, wpLQs P l K ts os → wpQs P l (onS K) (mkS ts os)
  | [], K, ts, os, h => onS_mk h
  | i :: l, K, ts, os, h => wpQ_mono (onS_elim fun _ _ h => wpLQs_on h) (wpLQ_on h)
theorem wpLT_on : ∀ {t : DT} {K : KK} {ts : TS} {os : OS}, wpLT P t K ts os → wpT P t (onS K) (mkS ts os)
  | .done, K, ts, os, h => onS_mk h
  | .fail, K, ts, os, h => h
  | .top, K, ts, os, h => trivial
  | .one i t, K, ts, os, h => wpQ_mono (onS_elim fun _ _ h => wpLT_on (t := t) h) (wpLQ_on h)
  | .alt a b, K, ts, os, h => ⟨wpLT_on (t := a) h.1, wpLT_on (t := b) h.2⟩
def AE.thenL (next : KK) (Q : AE → KK) : AE → KK
  | .normal => next
  | .exit i => Q (.exit i)
  | .ret => Q .ret
def AE.inBlockL (id : Nat) (Q : AE → KK) : AE → KK
  | .normal => Q .normal
  | .exit i => if i = id then Q .normal else Q (.exit i)
  | .ret => Q .ret
def condK (v : V) (A B : KK) (ts1 ts2 : TS) (os : OS) : Prop :=
  match v with
  | .k (.c (.bool t)) => condB t A B ts1 ts2 os
  | _ => False
def loopK (step : KK → KK) (L M : List Nat) (ts : TS) (os : OS) : Prop :=
  ∃ I : Nat → KK, (∃ n, I n (keepT ts L) (keepO os M)) ∧ ∀ n ts os, I n ts os → step (fun ts' os' => ∃ m, m < n ∧ I m (keepT ts' L) (keepO os' M)) ts os
def learn (ts : TS) (b : Bool) : AX → TS
  | .t s => insT s (.bool b) ts
  | .v _ => ts
theorem learn_same {b : Bool} {c : AX} (h : look ts c = .bool b) : mkS (learn ts b c) os = mkS ts os := by
  cases c with
  | t s => exact mkS_same h
  | v v => rfl
def noAL (A : Nat) (ts : TS) (os : OS) : Prop := (ts.all (fun p => p.2.noRef A) && os.all (fun p => p.1 != A && p.2.noRef A)) = true
def ownK (ob : Option O) (K : KK) (τ A e sz : Nat) (ts : TS) (os : OS) : Prop :=
  match ob with
  | some (.var e' [.c (.list _ (some true) [])]) => noAL A ts os ∧ K ts (insO A (.arr e sz (some true) []) (insO τ (.var e' [.own A]) os))
  | _ => False
theorem noAL_on {A : Nat} (h : noAL A ts os) : (mkS ts os).noA A := by
  unfold noAL at h
  simp only [Bool.and_eq_true, List.all_eq_true, bne_iff_ne, ne_eq] at h
  obtain ⟨h1, h2⟩ := h
  have k1 : ∀ (l : OS), (∀ p, p ∈ l → ¬ p.1 = A ∧ p.2.noRef A = true) → lookO A l = none ∧ ∀ s ob, lookO s l = some ob → ob.noRef A = true := by
    intro l
    induction l with
    | nil => intro _; exact ⟨rfl, fun s ob h => by simp [lookO] at h⟩
    | cons p l ih =>
      intro h
      obtain ⟨i1, i2⟩ := ih (fun q hq => h q (by simp [hq]))
      obtain ⟨p1, p2⟩ := h p (by simp)
      obtain ⟨k, o⟩ := p
      refine ⟨by simp only [lookO, if_neg p1]; exact i1, fun s ob hs => ?_⟩
      simp only [lookO] at hs
      split at hs
      · cases hs; exact p2
      · exact i2 s ob hs
  have k2 : ∀ (l : TS), (∀ p, p ∈ l → p.2.noRef A = true) → ∀ s, (lookT s l).noRef A = true := by
    intro l
    induction l with
    | nil => intro _ s; rfl
    | cons p l ih =>
      intro h s
      obtain ⟨k, v⟩ := p
      simp only [lookT]
      split
      · exact h (k, v) (by simp)
      · exact ih (fun q hq => h q (by simp [hq])) s
  exact ⟨(k1 os h2).1, k2 ts h1, (k1 os h2).2⟩
theorem mkS_ownNil {τ A e sz : Nat} {e' : TypeId} : (mkS ts os).ownNil τ A e sz e' = mkS ts (insO A (.arr e sz (some true) []) (insO τ (.var e' [.own A]) os)) := by
  simp only [St.ownNil, mkS, St.mk.injEq, true_and]
  funext s
  rw [lookO_ins, lookO_ins]
def swO (x y : Nat) : OS → OS
  | [] => []
  | (k, ob) :: l => (sw x y k, ob.sw x y) :: swO x y l
theorem lookO_swO (x y s : Nat) : ∀ (os : OS), lookO s (swO x y os) = (lookO (sw x y s) os).map (O.sw x y)
  | [] => rfl
  | (k, ob) :: l => by
    simp only [swO, lookO]
    by_cases h : k = sw x y s
    · rw [if_pos h, if_pos (by rw [h, sw_sw])]; rfl
    · rw [if_neg h, if_neg (by rintro rfl; rw [sw_sw] at h; exact h rfl), lookO_swO x y s l]
theorem mkS_sw (x y : Nat) : (mkS ts os).sw x y = mkS (mapT (V.sw x y) ts) (swO x y os) := by
  simp only [St.sw, mkS, St.mk.injEq]
  exact ⟨by funext s; rw [lookT_map _ rfl], by funext s; rw [lookO_swO]⟩
def awl (P : Program) : AQ → (AE → KK) → KK
  | .skip, Q, ts, os => Q .normal ts os
  | .region l, Q, ts, os => wpLs P l (Q .normal) ts os
  | .draw l _, Q, ts, os => wpLQs P l (Q .normal) ts os
  | .tree l p, Q, ts, os => wpLT P (treeOf l p) (Q .normal) ts os
  | .seq a b, Q, ts, os => awl P a (AE.thenL (awl P b Q) Q) ts os
  | .cond c a b, Q, ts, os => condK (look ts c) (awl P a Q) (awl P b Q) (learn ts true c) (learn ts false c) os
  | .block id a, Q, ts, os => awl P a (AE.inBlockL id Q) ts os
  | .loop L M a, Q, ts, os => loopK (fun next => awl P a (AE.thenL next Q)) L M ts os
  | .exit id, Q, ts, os => Q (.exit id) ts os
  | .ret, Q, ts, os => Q .ret ts os
  | .keep L M a, Q, ts, os => awl P a Q (keepT ts L) (keepO os M)
  | .own τ A e sz a, Q, ts, os => ownK (lookO τ os) (awl P a Q) τ A e sz ts os
  | .swap x y a, Q, ts, os => awl P a Q (mapT (V.sw x y) ts) (swO x y os)
  | .frz τ a, Q, ts, os => awl P a Q (frzT τ ts os (lookO τ os)) (frzO τ os (lookO τ os))
theorem awq_mono (c : AQ) : ∀ {Q Q' : AE → St → Prop} {σ : St}, (∀ e σ, Q e σ → Q' e σ) → awq P c Q σ → awq P c Q' σ := by
  induction c with
  | skip => intro Q Q' σ hq h; exact hq _ σ h
  | region l => intro Q Q' σ hq h; exact wpAIs_mono (hq .normal) h
  | draw l p => intro Q Q' σ hq h; exact wpQs_mono (hq .normal) h
  | tree l p => intro Q Q' σ hq h; exact wpT_mono (hq .normal) h
  | seq a b iha ihb =>
    intro Q Q' σ hq h
    exact iha (then_mono (fun σ h => ihb hq h) hq) h
  | cond c a b iha ihb =>
    intro Q Q' σ hq h
    simp only [awq, evg_ev] at h ⊢
    generalize AX.ev σ c = v at h ⊢
    split at h
    · exact ⟨fun ht => iha hq (h.1 ht), fun ht => ihb hq (h.2 ht)⟩
    · exact h.elim
  | block i a ih =>
    intro Q Q' σ hq h
    exact ih (inBlock_mono hq) h
  | loop L M a ih =>
    intro Q Q' σ hq h
    obtain ⟨I, h0, h1⟩ := h
    exact ⟨I, h0, fun n σ' hI => ih (then_mono (fun σ h => h) hq) (h1 n σ' hI)⟩
  | exit i => intro Q Q' σ hq h; exact hq _ σ h
  | ret => intro Q Q' σ hq h; exact hq _ σ h
  | keep L M a ih => intro Q Q' σ hq h; exact ih hq h
  | own τ A e sz a ih =>
    intro Q Q' σ hq h
    obtain ⟨e', z, h1, h2, h3⟩ := h
    exact ⟨e', z, h1, h2, ih hq h3⟩
  | swap x y a ih => intro Q Q' σ hq h; exact ih hq h
  | frz τ a ih => intro Q Q' σ hq h; exact ih hq h
theorem awl_on (c : AQ) : ∀ {Q : AE → KK} {ts : TS} {os : OS}, awl P c Q ts os → awq P c (fun e => onS (Q e)) (mkS ts os) := by
  induction c with
  | skip => intro Q ts os h; exact onS_mk h
  | region l => intro Q ts os h; exact wpLs_on h
  | draw l p => intro Q ts os h; exact wpLQs_on h
  | tree l p => intro Q ts os h; exact wpLT_on h
  | seq a b iha ihb =>
    intro Q ts os h
    refine awq_mono a (fun e σ h => ?_) (iha h)
    cases e with
    | normal => exact onS_elim (fun _ _ h => ihb h) σ h
    | exit i => exact h
    | ret => exact h
  | cond c a b iha ihb =>
    intro Q ts os h
    simp only [awl] at h
    simp only [awq, evg_ev, look_ev]
    generalize hv : look ts c = v at h ⊢
    unfold condK at h
    split at h
    · rename_i t
      rw [condB_iff] at h
      refine ⟨fun ht => ?_, fun ht => ?_⟩
      · have := iha (h.1 ht)
        rw [learn_same (by rw [hv, ht])] at this; exact this
      · have := ihb (h.2 ht)
        rw [learn_same (by rw [hv, ht])] at this; exact this
    · exact h.elim
  | block i a ih =>
    intro Q ts os h
    refine awq_mono a (fun e σ h => ?_) (ih h)
    cases e with
    | normal => exact h
    | exit j =>
      simp only [AE.inBlockL] at h
      simp only [AE.inBlock]
      split
      · rename_i hi; rw [if_pos hi] at h; exact h
      · rename_i hi; rw [if_neg hi] at h; exact h
    | ret => exact h
  | loop L M a ih =>
    intro Q ts os h
    obtain ⟨I, ⟨n, h0⟩, h1⟩ := h
    refine ⟨fun n => onS (I n), ⟨n, by rw [mkS_keep]; exact onS_mk h0⟩, fun n => onS_elim fun ts os hI => ?_⟩
    refine awq_mono a (fun e σ h => ?_) (ih (h1 n ts os hI))
    cases e with
    | normal =>
      obtain ⟨ts', os', rfl, m, hm, hI'⟩ := h
      exact ⟨m, hm, by rw [mkS_keep]; exact onS_mk hI'⟩
    | exit j => exact h
    | ret => exact h
  | exit i => intro Q ts os h; exact onS_mk h
  | ret => intro Q ts os h; exact onS_mk h
  | keep L M a ih =>
    intro Q ts os h
    simp only [awq, mkS_keep]
    exact ih h
  | own τ A e sz a ih =>
    intro Q ts os h
    simp only [awl] at h
    have e0 : (mkS ts os).o τ = lookO τ os := rfl
    generalize hob : lookO τ os = ob at h
    unfold ownK at h
    split at h
    · exact ⟨_, _, by rw [e0, hob], noAL_on h.1, by rw [mkS_ownNil]; exact ih h.2⟩
    · exact h.elim
  | swap x y a ih =>
    intro Q ts os h
    simp only [awq, mkS_sw]
    exact ih h
  | frz τ a ih =>
    intro Q ts os h
    simp only [awq, mkS_frz]
    exact ih h
def Next {X : Type} (st : X → TS) (ob : X → OS) (R : X → Prop) (m : X → Nat) (L M : List Nat) (n : Nat) : KK := fun ts os => ∃ y, keepT ts L = st y ∧ keepO os M = ob y ∧ R y ∧ m y < n
theorem Next.intro {X : Type} {st : X → TS} {ob : X → OS} {R : X → Prop} {m : X → Nat} {L M : List Nat} {n : Nat} (y : X) (h1 : keepT ts L = st y) (h2 : keepO os M = ob y) (hR : R y) (hm : m y < n) : Next st ob R m L M n ts os := ⟨y, h1, h2, hR, hm⟩
theorem awl_loop {X : Type} {L M : List Nat} {a : AQ} {Q : AE → KK} (st : X → TS) (ob : X → OS) (R : X → Prop) (m : X → Nat) (x0 : X) (h1 : keepT ts L = st x0) (h2 : keepO os M = ob x0) (hR : R x0)
    (hs : ∀ x, R x → awl P a (AE.thenL (Next st ob R m L M (m x)) Q) (st x) (ob x)) : awl P (.loop L M a) Q ts os := by
  refine ⟨fun n ts os => ∃ x, ts = st x ∧ os = ob x ∧ R x ∧ n = m x, ⟨m x0, x0, h1, h2, hR, rfl⟩, ?_⟩
  rintro n ts os ⟨x, rfl, rfl, hx, rfl⟩
  have e : Next st ob R m L M (m x) = (fun ts' os' => ∃ k, k < m x ∧ ∃ y, keepT ts' L = st y ∧ keepO os' M = ob y ∧ R y ∧ k = m y) := by
    funext ts' os'
    refine propext ⟨?_, ?_⟩
    · rintro ⟨y, a1, a2, a3, a4⟩; exact ⟨m y, a4, y, a1, a2, a3, rfl⟩
    · rintro ⟨k, a1, y, a2, a3, a4, rfl⟩; exact ⟨y, a2, a3, a4, a1⟩
  have := hs x hx
  rw [e] at this
  exact this
def resCell (ob : Option O) (off n : Nat) (agg : Bool) : Option (Prop × V) :=
  match ob with
  | some (.var _ row) => some (off + n ≤ row.length ∧ 0 < n, ofRow agg ((row.drop off).take n))
  | _ => none
def resX (ts : TS) (os : OS) : RX → Option (Prop × V)
  | .t s => some (True, lookT s ts)
  | .cell a n agg => match lookT a ts with
    | .k (.ptr τ off) => resCell (lookO τ os) off n agg
    | _ => none
def resL (ts : TS) (os : OS) : List RX → Option (Prop × List V)
  | [] => some (True, [])
  | x :: l => match resX ts os x, resL ts os l with
    | some (p, v), some (q, vs) => some (p ∧ q, v :: vs)
    | _, _ => none
def endV (v : V) (os : OS) (S : V → Prop) : Prop := (v.owns (fun s => lookO s os)).Nodup ∧ S (v.toNew (fun s => lookO s os))
def endL (r : Option (Prop × List V)) (os : OS) (S : V → Prop) : Prop :=
  match r with
  | some (p, vs) => p ∧ endV (one vs) os S
  | none => False
def endK (rs : List RX) (S : V → Prop) : AE → KK
  | .exit _, _, _ => False
  | _, ts, os => endL (resL (mapT V.nrm ts) (mapO O.nrm os) rs) (mapO O.nrm os) S
theorem resL_on : ∀ {rs : List RX} {p : Prop} {vs : List V} {k : List V → Prop}, resL ts os rs = some (p, vs) → p → k vs → resP (mkS ts os) rs k
  | [], p, vs, k, h, hp, hk => by simp [resL] at h; obtain ⟨_, rfl⟩ := h; exact hk
  | x :: l, p, vs, k, h, hp, hk => by
    simp only [resL] at h
    split at h
    · rename_i q v q' vs' h1 h2
      simp only [Option.some.injEq, Prod.mk.injEq] at h
      obtain ⟨rfl, rfl⟩ := h
      cases x with
      | t s =>
        simp only [resX, Option.some.injEq, Prod.mk.injEq] at h1
        obtain ⟨_, rfl⟩ := h1
        exact ⟨rfl, resL_on h2 hp.2 hk⟩
      | cell a n agg =>
        simp only [resX] at h1
        refine ⟨rfl, ?_⟩
        show (match (lookT a ts) with | .k (.ptr τ off) => _ | _ => False)
        split at h1
        · rename_i τ off ha
          show (match lookO τ os with | some (.var _ row) => _ | _ => False)
          unfold resCell at h1
          split at h1
          · rename_i ho
            simp only [Option.some.injEq, Prod.mk.injEq] at h1
            obtain ⟨rfl, rfl⟩ := h1
            exact ⟨hp.1.1, hp.1.2, resL_on h2 hp.2 hk⟩
          · simp at h1
        · simp at h1
    · simp at h
theorem end_on {rs : List RX} {S : V → Prop} {e : AE} (h : endK rs S e ts os) : endQ rs S e (mkS ts os) := by
  have key : endL (resL (mapT V.nrm ts) (mapO O.nrm os) rs) (mapO O.nrm os) S → retQ rs S (mkS ts os).nrm := by
    intro h
    rw [mkS_nrm]
    cases hr : resL (mapT V.nrm ts) (mapO O.nrm os) rs with
    | none => rw [hr] at h; exact h.elim
    | some pv =>
      obtain ⟨p, vs⟩ := pv
      rw [hr] at h
      exact resL_on hr h.1 h.2
  cases e with
  | normal => exact key h
  | exit i => exact h.elim
  | ret => exact key h
def endSL (r : Option (Prop × List V)) (args : List V) (o : Nat → Option O) (T : List Nat) (anchors : List (Nat × Nat)) (S : V → (Nat → Option O) → Prop) (ts : TS) (os : OS) : Prop :=
  match r with
  | some (p, vs) => p ∧ S (one vs) (tabIn T fun s => lookO s os) ∧ (one vs).within T = true ∧ (∀ τ, τ ∈ T → ∀ ob, lookO τ os = some ob → ob.within T = true) ∧
      ∀ p, p ∈ anchors → lookT p.1 ts = .k (.ptr p.2 0) ∧ args[p.1]? = some (.k (.ptr p.2 0)) ∧ likeVar (o p.2) (lookO p.2 os) = true ∧ p.2 ∈ T
  | none => False
def endSK (rs : List RX) (args : List V) (o : Nat → Option O) (T : List Nat) (anchors : List (Nat × Nat)) (S : V → (Nat → Option O) → Prop) : AE → KK
  | .exit _, _, _ => False
  | _, ts, os => endSL (resL (mapT V.nrm ts) (mapO O.nrm os) rs) args o T anchors S (mapT V.nrm ts) (mapO O.nrm os)
theorem endS_on {rs : List RX} {args : List V} {o : Nat → Option O} {T : List Nat} {anchors : List (Nat × Nat)} {S : V → (Nat → Option O) → Prop} {e : AE} (h : endSK rs args o T anchors S e ts os) : endS rs args o T anchors S e (mkS ts os) := by
  have key : endSL (resL (mapT V.nrm ts) (mapO O.nrm os) rs) args o T anchors S (mapT V.nrm ts) (mapO O.nrm os) → retS rs args o T anchors S (mkS ts os).nrm := by
    intro h
    rw [mkS_nrm]
    cases hr : resL (mapT V.nrm ts) (mapO O.nrm os) rs with
    | none => rw [hr] at h; exact h.elim
    | some pv =>
      obtain ⟨p, vs⟩ := pv
      rw [hr] at h
      exact resL_on hr h.1 h.2
  cases e with
  | normal => exact key h
  | exit i => exact h.elim
  | ret => exact key h
def tabL (T : List Nat) (L : OS) : Nat → Option O := tabIn T fun s => lookO s L
theorem SpecS.of_awl {f : FuncId} {n : Nat} {c : AQ} {rs : List RX} {args : List V} {L : OS} {T : List Nat} {anchors : List (Nat × Nat)} {S : V → (Nat → Option O) → Prop} (hc : cFunc P f = some ⟨n, c.erase, rs⟩) (hok : c.ok = true) (hlen : args.length ≤ n)
    (hav : c.erase.avoids (fun s => anchors.any fun p => p.1 == s) = true) (hL : ∀ p, p ∈ L → p.1 ∈ T) (h : awl P c (endSK rs args (tabL T L) T anchors S) (initT 0 args) L) : SpecS P f args (tabL T L) (anchors.map (·.2)) S := by
  refine SpecS.of_awq (T := T) hc hok hlen hav ?_
  have e : (⟨fun s => args.getD s .any, tabL T L⟩ : St) = mkS (initT 0 args) L := by
    have e2 : tabL T L = fun s => lookO s L := by
      funext s
      unfold tabL tabIn
      split
      · rfl
      · rename_i hs
        symm
        have : ∀ l : OS, (∀ p, p ∈ l → p.1 ∈ T) → lookO s l = none := by
          intro l
          induction l with
          | nil => intro _; rfl
          | cons p l ih =>
            intro h
            have hp := h p (by simp)
            have hne : ¬ p.1 = s := by rintro rfl; exact hs (by simpa using hp)
            simp only [lookO, if_neg hne]
            exact ih (fun q hq => h q (by simp [hq]))
        exact this L hL
    rw [e2]; exact init_mkS args L
  rw [e]
  exact awq_mono c (fun e => onS_elim fun _ _ h => endS_on h) (awl_on c h)
theorem call_f {f : FuncId} {xs : List AX} {vs : List V} {K : KK} {d : Option Nat} {X : Prop} (τ : Nat) (h0 : vs = xs.map (look ts)) (h1 : vs.flatMap V.hard = [τ]) (h2 : plainO (lookO τ os))
    (hk : callK P f (xs.map (look (frzT τ ts os (lookO τ os)))) [] K d (frzT τ ts os (lookO τ os)) (frzO τ os (lookO τ os)) ∨ False) : X ∨ callSF P f vs xs K d ts os :=
  .inr (.inr ⟨h0, .inl ⟨τ, by rw [← h0]; exact h1, h2, hk.elim id False.elim⟩⟩)
theorem Spec.of_awl {f : FuncId} {n : Nat} {c : AQ} {rs : List RX} {args : List V} {S : V → Prop} (hc : cFunc P f = some ⟨n, c.erase, rs⟩) (hok : c.ok = true) (hlen : args.length ≤ n) (h : awl P c (endK rs S) (initT 0 args) []) : Spec P f args S := by
  refine Spec.of_awq hc hok hlen ?_
  have e : St.init args = mkS (initT 0 args) [] := init_mkS args []
  rw [e]
  exact awq_mono c (fun e => onS_elim fun _ _ h => end_on h) (awl_on c h)
theorem Spec.of_awlS {f : FuncId} {n : Nat} {c : AQ} {rs : List RX} {args : List V} {X : V} (hc : cFunc P f = some ⟨n, c.erase, rs⟩) (hok : c.ok = true) (hlen : args.length ≤ n) (h : ∀ S : V → Prop, S X → awl P c (endK rs S) (initT 0 args) []) : Spec P f args (fun r => r = X) :=
  Spec.of_awl hc hok hlen (h (fun r => r = X) rfl)
theorem fin {S : V → Prop} {X v : V} (h : S X) (e : v = X) : S v := e ▸ h
theorem callable_of {f : FuncId} {x : AF} (hc : cFunc P f = some x) : Callable P f := by
  unfold cFunc at hc
  simp only [Option.bind_eq_bind, Option.bind_eq_some_iff] at hc
  obtain ⟨fn, hf, c, hb, ac', hcc, rs', hr, hc⟩ := hc
  split at hc
  · simp at hc
  · rename_i hn
    exact ⟨fn, hf, by simp [hb], by simpa using hn⟩
def V.topC : V → List C
  | .k (.c c) => [c]
  | .agg r => r
  | _ => []
theorem Spec.of_len {f : FuncId} {x : AF} {args : List V} {S : V → Prop} (hc : cFunc P f = some x)
    (h : (∀ v, v ∈ args → ∀ c, c ∈ v.topC → ∀ sz nl rows, c = .list sz nl rows → rows.length ≤ 9223372036854775807) → Spec P f args S) : Spec P f args S := by
  refine ⟨callable_of hc, fun w Z vs hG hz ha => (h ?_).2 w Z vs hG hz ha⟩
  rintro v hv c hcm sz nl rows rfl
  obtain ⟨j, hj⟩ := List.getElem?_of_mem hv
  have hlt : j < vs.toList.length := by rw [ha.1]; exact (List.getElem?_eq_some_iff.1 hj).1
  obtain ⟨hpu, hr⟩ := ha.2 j _ _ hj (List.getElem?_eq_getElem hlt)
  generalize vs.toList[j] = u at hr
  have key : ∀ u', PRep w Z (.list sz nl rows) u' → rows.length ≤ 9223372036854775807 := by
    intro u' hp
    cases hp with
    | nil => simp
    | emp => simp
    | list b o cap _ _ _ val h1 h2 h3 =>
      have : cap ≤ 9223372036854775807 := h3
      omega
  cases v with
  | k x =>
    cases x with
    | c y =>
      simp only [V.topC, List.mem_singleton] at hcm
      subst hcm
      exact key u hr.2
    | _ => simp [V.isPure] at hpu
  | agg r =>
    obtain ⟨cs, rfl, hrow⟩ := hr
    obtain ⟨k, hk⟩ := List.getElem?_of_mem (show C.list sz nl rows ∈ r from hcm)
    have hkl : k < cs.toList.length := by rw [hrow.1]; exact (List.getElem?_eq_some_iff.1 hk).1
    exact key _ (hrow.2 k _ _ hk (List.getElem?_eq_getElem hkl))
  | _ => simp [V.isPure] at hpu
end
end Go.Abs


namespace Go.Abs
theorem q_wpLs_eq_1 : type_of% @Go.Abs.wpLs.eq_1 := id @Go.Abs.wpLs.eq_1
theorem q_wpLs_eq_2 : type_of% @Go.Abs.wpLs.eq_2 := id @Go.Abs.wpLs.eq_2
theorem q_wpLQs_eq_1 : type_of% @Go.Abs.wpLQs.eq_1 := id @Go.Abs.wpLQs.eq_1
theorem q_wpLQs_eq_2 : type_of% @Go.Abs.wpLQs.eq_2 := id @Go.Abs.wpLQs.eq_2
theorem q_wpLT_eq_1 : type_of% @Go.Abs.wpLT.eq_1 := id @Go.Abs.wpLT.eq_1
theorem q_wpLT_eq_3 : type_of% @Go.Abs.wpLT.eq_3 := id @Go.Abs.wpLT.eq_3
theorem q_wpLT_eq_4 : type_of% @Go.Abs.wpLT.eq_4 := id @Go.Abs.wpLT.eq_4
theorem q_wpLT_eq_5 : type_of% @Go.Abs.wpLT.eq_5 := id @Go.Abs.wpLT.eq_5
theorem q_wpL_eq_1 : type_of% @Go.Abs.wpL.eq_1 := id @Go.Abs.wpL.eq_1
theorem q_wpLQ_eq_1 : type_of% @Go.Abs.wpLQ.eq_1 := id @Go.Abs.wpLQ.eq_1
theorem q_putDL_eq_1 : type_of% @Go.Abs.putDL.eq_1 := id @Go.Abs.putDL.eq_1
theorem q_AOp_dst_eq_1 : type_of% @Go.Abs.AOp.dst.eq_1 := id @Go.Abs.AOp.dst.eq_1
theorem q_AOp_dst_eq_3 : type_of% @Go.Abs.AOp.dst.eq_3 := id @Go.Abs.AOp.dst.eq_3
theorem q_AOp_dst_eq_7 : type_of% @Go.Abs.AOp.dst.eq_7 := id @Go.Abs.AOp.dst.eq_7
theorem q_AOp_dst_eq_8 : type_of% @Go.Abs.AOp.dst.eq_8 := id @Go.Abs.AOp.dst.eq_8
theorem q_AOp_dst_eq_10 : type_of% @Go.Abs.AOp.dst.eq_10 := id @Go.Abs.AOp.dst.eq_10
theorem q_AOp_dst_eq_14 : type_of% @Go.Abs.AOp.dst.eq_14 := id @Go.Abs.AOp.dst.eq_14
theorem q_AOp_dst_eq_19 : type_of% @Go.Abs.AOp.dst.eq_19 := id @Go.Abs.AOp.dst.eq_19
theorem q_AOp_dst_eq_20 : type_of% @Go.Abs.AOp.dst.eq_20 := id @Go.Abs.AOp.dst.eq_20
theorem q_AOp_dst_eq_24 : type_of% @Go.Abs.AOp.dst.eq_24 := id @Go.Abs.AOp.dst.eq_24
theorem q_AOp_dst_eq_27 : type_of% @Go.Abs.AOp.dst.eq_27 := id @Go.Abs.AOp.dst.eq_27
theorem q_AOp_dst_eq_28 : type_of% @Go.Abs.AOp.dst.eq_28 := id @Go.Abs.AOp.dst.eq_28
theorem q_AOp_dst_eq_32 : type_of% @Go.Abs.AOp.dst.eq_32 := id @Go.Abs.AOp.dst.eq_32
theorem q_exL_eq_1 : type_of% @Go.Abs.exL.eq_1 := id @Go.Abs.exL.eq_1
theorem q_exL_eq_2 : type_of% @Go.Abs.exL.eq_2 := id @Go.Abs.exL.eq_2
theorem q_exL_eq_3 : type_of% @Go.Abs.exL.eq_3 := id @Go.Abs.exL.eq_3
theorem q_exL_eq_4 : type_of% @Go.Abs.exL.eq_4 := id @Go.Abs.exL.eq_4
theorem q_exL_eq_5 : type_of% @Go.Abs.exL.eq_5 := id @Go.Abs.exL.eq_5
theorem q_exL_eq_6 : type_of% @Go.Abs.exL.eq_6 := id @Go.Abs.exL.eq_6
theorem q_exL_eq_7 : type_of% @Go.Abs.exL.eq_7 := id @Go.Abs.exL.eq_7
theorem q_exL_eq_8 : type_of% @Go.Abs.exL.eq_8 := id @Go.Abs.exL.eq_8
theorem q_exL_eq_9 : type_of% @Go.Abs.exL.eq_9 := id @Go.Abs.exL.eq_9
theorem q_exL_eq_11 : type_of% @Go.Abs.exL.eq_11 := id @Go.Abs.exL.eq_11
theorem q_exL_eq_15 : type_of% @Go.Abs.exL.eq_15 := id @Go.Abs.exL.eq_15
theorem q_exL_eq_16 : type_of% @Go.Abs.exL.eq_16 := id @Go.Abs.exL.eq_16
theorem q_exL_eq_19 : type_of% @Go.Abs.exL.eq_19 := id @Go.Abs.exL.eq_19
theorem q_exL_eq_20 : type_of% @Go.Abs.exL.eq_20 := id @Go.Abs.exL.eq_20
theorem q_exL_eq_21 : type_of% @Go.Abs.exL.eq_21 := id @Go.Abs.exL.eq_21
theorem q_exL_eq_23 : type_of% @Go.Abs.exL.eq_23 := id @Go.Abs.exL.eq_23
theorem q_exL_eq_25 : type_of% @Go.Abs.exL.eq_25 := id @Go.Abs.exL.eq_25
theorem q_exL_eq_27 : type_of% @Go.Abs.exL.eq_27 := id @Go.Abs.exL.eq_27
theorem q_exL_eq_28 : type_of% @Go.Abs.exL.eq_28 := id @Go.Abs.exL.eq_28
theorem q_exL_eq_30 : type_of% @Go.Abs.exL.eq_30 := id @Go.Abs.exL.eq_30
theorem q_exL_eq_31 : type_of% @Go.Abs.exL.eq_31 := id @Go.Abs.exL.eq_31
theorem q_exL_eq_33 : type_of% @Go.Abs.exL.eq_33 := id @Go.Abs.exL.eq_33
theorem q_exLQ_eq_1 : type_of% @Go.Abs.exLQ.eq_1 := id @Go.Abs.exLQ.eq_1
theorem q_exLQ_eq_3 : type_of% @Go.Abs.exLQ.eq_3 := id @Go.Abs.exLQ.eq_3
theorem q_exLQ_eq_6 : type_of% @Go.Abs.exLQ.eq_6 := id @Go.Abs.exLQ.eq_6
theorem q_exLQ_eq_8 : type_of% @Go.Abs.exLQ.eq_8 := id @Go.Abs.exLQ.eq_8
theorem q_exLQ_eq_9 : type_of% @Go.Abs.exLQ.eq_9 := id @Go.Abs.exLQ.eq_9
theorem q_exLQ_eq_10 : type_of% @Go.Abs.exLQ.eq_10 := id @Go.Abs.exLQ.eq_10
theorem q_exLQ_eq_12 : type_of% @Go.Abs.exLQ.eq_12 := id @Go.Abs.exLQ.eq_12
theorem q_exLQ_eq_21 : type_of% @Go.Abs.exLQ.eq_21 := id @Go.Abs.exLQ.eq_21
theorem q_exLQ_eq_22 : type_of% @Go.Abs.exLQ.eq_22 := id @Go.Abs.exLQ.eq_22
theorem q_exLQ_eq_24 : type_of% @Go.Abs.exLQ.eq_24 := id @Go.Abs.exLQ.eq_24
theorem q_exLQ_eq_26 : type_of% @Go.Abs.exLQ.eq_26 := id @Go.Abs.exLQ.eq_26
theorem q_exLQ_eq_28 : type_of% @Go.Abs.exLQ.eq_28 := id @Go.Abs.exLQ.eq_28
theorem q_exLQ_eq_29 : type_of% @Go.Abs.exLQ.eq_29 := id @Go.Abs.exLQ.eq_29
theorem q_exLQ_eq_34 : type_of% @Go.Abs.exLQ.eq_34 := id @Go.Abs.exLQ.eq_34
theorem q_exLQ_eq_36 : type_of% @Go.Abs.exLQ.eq_36 := id @Go.Abs.exLQ.eq_36
theorem q_exLQ_eq_37 : type_of% @Go.Abs.exLQ.eq_37 := id @Go.Abs.exLQ.eq_37
theorem q_look_eq_1 : type_of% @Go.Abs.look.eq_1 := id @Go.Abs.look.eq_1
theorem q_look_eq_2 : type_of% @Go.Abs.look.eq_2 := id @Go.Abs.look.eq_2
theorem q_lookT_eq_1 : type_of% @Go.Abs.lookT.eq_1 := id @Go.Abs.lookT.eq_1
theorem q_lookO_eq_1 : type_of% @Go.Abs.lookO.eq_1 := id @Go.Abs.lookO.eq_1
theorem q_insT_eq_1 : type_of% @Go.Abs.insT.eq_1 := id @Go.Abs.insT.eq_1
theorem q_insO_eq_1 : type_of% @Go.Abs.insO.eq_1 := id @Go.Abs.insO.eq_1
theorem q_awl_eq_1 : type_of% @Go.Abs.awl.eq_1 := id @Go.Abs.awl.eq_1
theorem q_awl_eq_2 : type_of% @Go.Abs.awl.eq_2 := id @Go.Abs.awl.eq_2
theorem q_awl_eq_3 : type_of% @Go.Abs.awl.eq_3 := id @Go.Abs.awl.eq_3
theorem q_awl_eq_4 : type_of% @Go.Abs.awl.eq_4 := id @Go.Abs.awl.eq_4
theorem q_awl_eq_5 : type_of% @Go.Abs.awl.eq_5 := id @Go.Abs.awl.eq_5
theorem q_awl_eq_6 : type_of% @Go.Abs.awl.eq_6 := id @Go.Abs.awl.eq_6
theorem q_awl_eq_7 : type_of% @Go.Abs.awl.eq_7 := id @Go.Abs.awl.eq_7
theorem q_awl_eq_9 : type_of% @Go.Abs.awl.eq_9 := id @Go.Abs.awl.eq_9
theorem q_awl_eq_10 : type_of% @Go.Abs.awl.eq_10 := id @Go.Abs.awl.eq_10
theorem q_awl_eq_11 : type_of% @Go.Abs.awl.eq_11 := id @Go.Abs.awl.eq_11
theorem q_AE_thenL_eq_1 : type_of% @Go.Abs.AE.thenL.eq_1 := id @Go.Abs.AE.thenL.eq_1
theorem q_AE_thenL_eq_2 : type_of% @Go.Abs.AE.thenL.eq_2 := id @Go.Abs.AE.thenL.eq_2
theorem q_AE_thenL_eq_3 : type_of% @Go.Abs.AE.thenL.eq_3 := id @Go.Abs.AE.thenL.eq_3
theorem q_AE_inBlockL_eq_1 : type_of% @Go.Abs.AE.inBlockL.eq_1 := id @Go.Abs.AE.inBlockL.eq_1
theorem q_AE_inBlockL_eq_2 : type_of% @Go.Abs.AE.inBlockL.eq_2 := id @Go.Abs.AE.inBlockL.eq_2
theorem q_AE_inBlockL_eq_3 : type_of% @Go.Abs.AE.inBlockL.eq_3 := id @Go.Abs.AE.inBlockL.eq_3
theorem q_learn_eq_1 : type_of% @Go.Abs.learn.eq_1 := id @Go.Abs.learn.eq_1
theorem q_learn_eq_2 : type_of% @Go.Abs.learn.eq_2 := id @Go.Abs.learn.eq_2
theorem q_keepT_eq_1 : type_of% @Go.Abs.keepT.eq_1 := id @Go.Abs.keepT.eq_1
theorem q_keepT_eq_2 : type_of% @Go.Abs.keepT.eq_2 := id @Go.Abs.keepT.eq_2
theorem q_keepO_eq_1 : type_of% @Go.Abs.keepO.eq_1 := id @Go.Abs.keepO.eq_1
theorem q_keepO_eq_2 : type_of% @Go.Abs.keepO.eq_2 := id @Go.Abs.keepO.eq_2
theorem q_addO_eq_1 : type_of% @Go.Abs.addO.eq_1 := id @Go.Abs.addO.eq_1
theorem q_addO_eq_2 : type_of% @Go.Abs.addO.eq_2 := id @Go.Abs.addO.eq_2
theorem q_initT_eq_1 : type_of% @Go.Abs.initT.eq_1 := id @Go.Abs.initT.eq_1
theorem q_initT_eq_2 : type_of% @Go.Abs.initT.eq_2 := id @Go.Abs.initT.eq_2
theorem q_putK_eq_1 : type_of% @Go.Abs.putK.eq_1 := id @Go.Abs.putK.eq_1
theorem q_vBin_eq_1 : type_of% @Go.Abs.vBin.eq_1 := id @Go.Abs.vBin.eq_1
theorem q_resV_eq_1 : type_of% @Go.Abs.resV.eq_1 := id @Go.Abs.resV.eq_1
theorem q_binV_eq_1 : type_of% @Go.Abs.binV.eq_1 := id @Go.Abs.binV.eq_1
theorem q_binV_eq_2 : type_of% @Go.Abs.binV.eq_2 := id @Go.Abs.binV.eq_2
theorem q_binInt_eq_2 : type_of% @Go.Abs.binInt.eq_2 := id @Go.Abs.binInt.eq_2
theorem q_binInt_eq_3 : type_of% @Go.Abs.binInt.eq_3 := id @Go.Abs.binInt.eq_3
theorem q_cutInt_eq_1 : type_of% @Go.Abs.cutInt.eq_1 := id @Go.Abs.cutInt.eq_1
theorem q_cutInt_eq_2 : type_of% @Go.Abs.cutInt.eq_2 := id @Go.Abs.cutInt.eq_2
theorem q_cutInt_eq_3 : type_of% @Go.Abs.cutInt.eq_3 := id @Go.Abs.cutInt.eq_3
theorem q_cutInt_eq_4 : type_of% @Go.Abs.cutInt.eq_4 := id @Go.Abs.cutInt.eq_4
theorem q_cutInt_eq_5 : type_of% @Go.Abs.cutInt.eq_5 := id @Go.Abs.cutInt.eq_5
theorem q_cutInt_eq_6 : type_of% @Go.Abs.cutInt.eq_6 := id @Go.Abs.cutInt.eq_6
theorem q_cutInt_eq_7 : type_of% @Go.Abs.cutInt.eq_7 := id @Go.Abs.cutInt.eq_7
theorem q_cutInt_eq_8 : type_of% @Go.Abs.cutInt.eq_8 := id @Go.Abs.cutInt.eq_8
theorem q_cutInt_eq_9 : type_of% @Go.Abs.cutInt.eq_9 := id @Go.Abs.cutInt.eq_9
theorem q_cutInt_eq_10 : type_of% @Go.Abs.cutInt.eq_10 := id @Go.Abs.cutInt.eq_10
theorem q_cutInt_eq_11 : type_of% @Go.Abs.cutInt.eq_11 := id @Go.Abs.cutInt.eq_11
theorem q_cutInt_eq_12 : type_of% @Go.Abs.cutInt.eq_12 := id @Go.Abs.cutInt.eq_12
theorem q_binStr_eq_1 : type_of% @Go.Abs.binStr.eq_1 := id @Go.Abs.binStr.eq_1
theorem q_binStr_eq_2 : type_of% @Go.Abs.binStr.eq_2 := id @Go.Abs.binStr.eq_2
theorem q_binStr_eq_3 : type_of% @Go.Abs.binStr.eq_3 := id @Go.Abs.binStr.eq_3
theorem q_vUn_eq_1 : type_of% @Go.Abs.vUn.eq_1 := id @Go.Abs.vUn.eq_1
theorem q_unV_eq_2 : type_of% @Go.Abs.unV.eq_2 := id @Go.Abs.unV.eq_2
theorem q_mapC_eq_1 : type_of% @Go.Abs.mapC.eq_1 := id @Go.Abs.mapC.eq_1
theorem q_vConv_eq_1 : type_of% @Go.Abs.vConv.eq_1 := id @Go.Abs.vConv.eq_1
theorem q_vExtr_eq_1 : type_of% @Go.Abs.vExtr.eq_1 := id @Go.Abs.vExtr.eq_1
theorem q_vLenS_eq_1 : type_of% @Go.Abs.vLenS.eq_1 := id @Go.Abs.vLenS.eq_1
theorem q_vLen_eq_1 : type_of% @Go.Abs.vLen.eq_1 := id @Go.Abs.vLen.eq_1
theorem q_vLen_eq_2 : type_of% @Go.Abs.vLen.eq_2 := id @Go.Abs.vLen.eq_2
theorem q_lenO_eq_1 : type_of% @Go.Abs.lenO.eq_1 := id @Go.Abs.lenO.eq_1
theorem q_vSidx_eq_1 : type_of% @Go.Abs.vSidx.eq_1 := id @Go.Abs.vSidx.eq_1
theorem q_vFaddr_eq_1 : type_of% @Go.Abs.vFaddr.eq_1 := id @Go.Abs.vFaddr.eq_1
theorem q_partV_eq_1 : type_of% @Go.Abs.partV.eq_1 := id @Go.Abs.partV.eq_1
theorem q_partV_eq_2 : type_of% @Go.Abs.partV.eq_2 := id @Go.Abs.partV.eq_2
theorem q_loadO_eq_1 : type_of% @Go.Abs.loadO.eq_1 := id @Go.Abs.loadO.eq_1
theorem q_loadO_eq_2 : type_of% @Go.Abs.loadO.eq_2 := id @Go.Abs.loadO.eq_2
theorem q_isV_eq_1 : type_of% @Go.Abs.isV.eq_1 := id @Go.Abs.isV.eq_1
theorem q_isA_eq_1 : type_of% @Go.Abs.isA.eq_1 := id @Go.Abs.isA.eq_1
theorem q_vLoad_eq_1 : type_of% @Go.Abs.vLoad.eq_1 := id @Go.Abs.vLoad.eq_1
theorem q_vLoad_eq_2 : type_of% @Go.Abs.vLoad.eq_2 := id @Go.Abs.vLoad.eq_2
theorem q_vLoad_eq_3 : type_of% @Go.Abs.vLoad.eq_3 := id @Go.Abs.vLoad.eq_3
theorem q_vIaddr_eq_1 : type_of% @Go.Abs.vIaddr.eq_1 := id @Go.Abs.vIaddr.eq_1
theorem q_vIaddr_eq_2 : type_of% @Go.Abs.vIaddr.eq_2 := id @Go.Abs.vIaddr.eq_2
theorem q_idxO_eq_1 : type_of% @Go.Abs.idxO.eq_1 := id @Go.Abs.idxO.eq_1
theorem q_vPick_eq_1 : type_of% @Go.Abs.vPick.eq_1 := id @Go.Abs.vPick.eq_1
theorem q_vPick_eq_2 : type_of% @Go.Abs.vPick.eq_2 := id @Go.Abs.vPick.eq_2
theorem q_vPick_eq_3 : type_of% @Go.Abs.vPick.eq_3 := id @Go.Abs.vPick.eq_3
theorem q_vBuild_eq_1 : type_of% @Go.Abs.vBuild.eq_1 := id @Go.Abs.vBuild.eq_1
theorem q_vBuild_eq_2 : type_of% @Go.Abs.vBuild.eq_2 := id @Go.Abs.vBuild.eq_2
theorem q_rowV_eq_1 : type_of% @Go.Abs.rowV.eq_1 := id @Go.Abs.rowV.eq_1
theorem q_vBound_eq_1 : type_of% @Go.Abs.vBound.eq_1 := id @Go.Abs.vBound.eq_1
theorem q_vBound_eq_2 : type_of% @Go.Abs.vBound.eq_2 := id @Go.Abs.vBound.eq_2
theorem q_cutS_eq_1 : type_of% @Go.Abs.cutS.eq_1 := id @Go.Abs.cutS.eq_1
theorem q_vSlstr_eq_1 : type_of% @Go.Abs.vSlstr.eq_1 := id @Go.Abs.vSlstr.eq_1
theorem q_cutL_eq_1 : type_of% @Go.Abs.cutL.eq_1 := id @Go.Abs.cutL.eq_1
theorem q_vSlice_eq_1 : type_of% @Go.Abs.vSlice.eq_1 := id @Go.Abs.vSlice.eq_1
theorem q_vInts_eq_1 : type_of% @Go.Abs.vInts.eq_1 := id @Go.Abs.vInts.eq_1
theorem q_vInts_eq_2 : type_of% @Go.Abs.vInts.eq_2 := id @Go.Abs.vInts.eq_2
theorem q_foldV_eq_1 : type_of% @Go.Abs.foldV.eq_1 := id @Go.Abs.foldV.eq_1
theorem q_vMinmax_eq_1 : type_of% @Go.Abs.vMinmax.eq_1 := id @Go.Abs.vMinmax.eq_1
theorem q_minmaxI_eq_1 : type_of% @Go.Abs.minmaxI.eq_1 := id @Go.Abs.minmaxI.eq_1
theorem q_ofRow_eq_1 : type_of% @Go.Abs.ofRow.eq_1 := id @Go.Abs.ofRow.eq_1
theorem q_ofRow_eq_2 : type_of% @Go.Abs.ofRow.eq_2 := id @Go.Abs.ofRow.eq_2
theorem q_pureRow_eq_1 : type_of% @Go.Abs.pureRow.eq_1 := id @Go.Abs.pureRow.eq_1
theorem q_pureRow_eq_2 : type_of% @Go.Abs.pureRow.eq_2 := id @Go.Abs.pureRow.eq_2
theorem q_pureRow_eq_3 : type_of% @Go.Abs.pureRow.eq_3 := id @Go.Abs.pureRow.eq_3
theorem q_V_cells_eq_1 : type_of% @Go.Abs.V.cells.eq_1 := id @Go.Abs.V.cells.eq_1
theorem q_V_cells_eq_2 : type_of% @Go.Abs.V.cells.eq_2 := id @Go.Abs.V.cells.eq_2
theorem q_V_cells_eq_3 : type_of% @Go.Abs.V.cells.eq_3 := id @Go.Abs.V.cells.eq_3
theorem q_splice_eq_1 {α : Type} (row : List α) (off : Nat) (ks : List α) : splice row off ks = row.take off ++ ks ++ row.drop (off + ks.length) := id rfl
theorem q_isVarO_eq_1 : type_of% @Go.Abs.isVarO.eq_1 := id @Go.Abs.isVarO.eq_1
theorem q_isArrO_eq_1 : type_of% @Go.Abs.isArrO.eq_1 := id @Go.Abs.isArrO.eq_1
theorem q_nlApp_eq_2 : type_of% @Go.Abs.nlApp.eq_2 := id @Go.Abs.nlApp.eq_2
theorem q_boxK_eq_1 : type_of% @Go.Abs.boxK.eq_1 := id @Go.Abs.boxK.eq_1
theorem q_vRow_eq_1 : type_of% @Go.Abs.vRow.eq_1 := id @Go.Abs.vRow.eq_1
theorem q_vRow_eq_2 : type_of% @Go.Abs.vRow.eq_2 := id @Go.Abs.vRow.eq_2
theorem q_vLits_eq_1 : type_of% @Go.Abs.vLits.eq_1 := id @Go.Abs.vLits.eq_1
theorem q_vLits_eq_2 : type_of% @Go.Abs.vLits.eq_2 := id @Go.Abs.vLits.eq_2
theorem q_bsK_eq_1 : type_of% @Go.Abs.bsK.eq_1 := id @Go.Abs.bsK.eq_1
theorem q_bsQ_eq_1 : type_of% @Go.Abs.bsQ.eq_1 := id @Go.Abs.bsQ.eq_1
theorem q_stVarK_eq_1 : type_of% @Go.Abs.stVarK.eq_1 := id @Go.Abs.stVarK.eq_1
theorem q_stArrK_eq_1 : type_of% @Go.Abs.stArrK.eq_1 := id @Go.Abs.stArrK.eq_1
theorem q_storeK_eq_1 : type_of% @Go.Abs.storeK.eq_1 := id @Go.Abs.storeK.eq_1
theorem q_storeK_eq_2 : type_of% @Go.Abs.storeK.eq_2 := id @Go.Abs.storeK.eq_2
theorem q_srcO_eq_1 : type_of% @Go.Abs.srcO.eq_1 := id @Go.Abs.srcO.eq_1
theorem q_srcV_eq_1 : type_of% @Go.Abs.srcV.eq_1 := id @Go.Abs.srcV.eq_1
theorem q_srcV_eq_2 : type_of% @Go.Abs.srcV.eq_2 := id @Go.Abs.srcV.eq_2
theorem q_appK_eq_1 : type_of% @Go.Abs.appK.eq_1 := id @Go.Abs.appK.eq_1
theorem q_appNK_eq_1 : type_of% @Go.Abs.appNK.eq_1 := id @Go.Abs.appNK.eq_1
theorem q_appendK_eq_1 : type_of% @Go.Abs.appendK.eq_1 := id @Go.Abs.appendK.eq_1
theorem q_appendK_eq_2 : type_of% @Go.Abs.appendK.eq_2 := id @Go.Abs.appendK.eq_2
theorem q_mapT_eq_1 : type_of% @Go.Abs.mapT.eq_1 := id @Go.Abs.mapT.eq_1
theorem q_mapT_eq_2 : type_of% @Go.Abs.mapT.eq_2 := id @Go.Abs.mapT.eq_2
theorem q_mapO_eq_1 : type_of% @Go.Abs.mapO.eq_1 := id @Go.Abs.mapO.eq_1
theorem q_mapO_eq_2 : type_of% @Go.Abs.mapO.eq_2 := id @Go.Abs.mapO.eq_2
theorem q_delO_eq_1 : type_of% @Go.Abs.delO.eq_1 := id @Go.Abs.delO.eq_1
theorem q_delO_eq_2 : type_of% @Go.Abs.delO.eq_2 := id @Go.Abs.delO.eq_2
theorem q_freeB_eq_1 : type_of% @Go.Abs.freeB.eq_1 := id @Go.Abs.freeB.eq_1
theorem q_freeT_eq_1 : type_of% @Go.Abs.freeT.eq_1 := id @Go.Abs.freeT.eq_1
theorem q_freeT_eq_2 : type_of% @Go.Abs.freeT.eq_2 := id @Go.Abs.freeT.eq_2
theorem q_freeO_eq_1 : type_of% @Go.Abs.freeO.eq_1 := id @Go.Abs.freeO.eq_1
theorem q_freeO_eq_2 : type_of% @Go.Abs.freeO.eq_2 := id @Go.Abs.freeO.eq_2
theorem q_V_noRef_eq_1 : type_of% @Go.Abs.V.noRef.eq_1 := id @Go.Abs.V.noRef.eq_1
theorem q_V_noRef_eq_2 : type_of% @Go.Abs.V.noRef.eq_2 := id @Go.Abs.V.noRef.eq_2
theorem q_V_noRef_eq_4 : type_of% @Go.Abs.V.noRef.eq_4 := id @Go.Abs.V.noRef.eq_4
theorem q_V_noRef_eq_6 : type_of% @Go.Abs.V.noRef.eq_6 := id @Go.Abs.V.noRef.eq_6
theorem q_K_noRef_eq_1 : type_of% @Go.Abs.K.noRef.eq_1 := id @Go.Abs.K.noRef.eq_1
theorem q_K_noRef_eq_2 : type_of% @Go.Abs.K.noRef.eq_2 := id @Go.Abs.K.noRef.eq_2
theorem q_K_noRef_eq_3 : type_of% @Go.Abs.K.noRef.eq_3 := id @Go.Abs.K.noRef.eq_3
theorem q_K_noRef_eq_5 : type_of% @Go.Abs.K.noRef.eq_5 := id @Go.Abs.K.noRef.eq_5
theorem q_O_noRef_eq_1 : type_of% @Go.Abs.O.noRef.eq_1 := id @Go.Abs.O.noRef.eq_1
theorem q_O_noRef_eq_2 : type_of% @Go.Abs.O.noRef.eq_2 := id @Go.Abs.O.noRef.eq_2
theorem q_V_noRefL_eq_1 : type_of% @Go.Abs.V.noRefL.eq_1 := id @Go.Abs.V.noRefL.eq_1
theorem q_V_noRefL_eq_2 : type_of% @Go.Abs.V.noRefL.eq_2 := id @Go.Abs.V.noRefL.eq_2
theorem q_V_scrub_eq_1 : type_of% @Go.Abs.V.scrub.eq_1 := id @Go.Abs.V.scrub.eq_1
theorem q_V_scrub_eq_2 : type_of% @Go.Abs.V.scrub.eq_2 := id @Go.Abs.V.scrub.eq_2
theorem q_V_scrub_eq_3 : type_of% @Go.Abs.V.scrub.eq_3 := id @Go.Abs.V.scrub.eq_3
theorem q_V_scrub_eq_5 : type_of% @Go.Abs.V.scrub.eq_5 := id @Go.Abs.V.scrub.eq_5
theorem q_K_scrub_eq_1 : type_of% @Go.Abs.K.scrub.eq_1 := id @Go.Abs.K.scrub.eq_1
theorem q_K_scrub_eq_2 : type_of% @Go.Abs.K.scrub.eq_2 := id @Go.Abs.K.scrub.eq_2
theorem q_K_scrub_eq_5 : type_of% @Go.Abs.K.scrub.eq_5 := id @Go.Abs.K.scrub.eq_5
theorem q_O_scrub_eq_1 : type_of% @Go.Abs.O.scrub.eq_1 := id @Go.Abs.O.scrub.eq_1
theorem q_O_scrub_eq_2 : type_of% @Go.Abs.O.scrub.eq_2 := id @Go.Abs.O.scrub.eq_2
theorem q_V_toks_eq_1 : type_of% @Go.Abs.V.toks.eq_1 := id @Go.Abs.V.toks.eq_1
theorem q_K_toks_eq_5 : type_of% @Go.Abs.K.toks.eq_5 := id @Go.Abs.K.toks.eq_5
theorem q_endK_eq_2 : type_of% @Go.Abs.endK.eq_2 := id @Go.Abs.endK.eq_2
theorem q_endL_eq_1 : type_of% @Go.Abs.endL.eq_1 := id @Go.Abs.endL.eq_1
theorem q_endV_eq_1 : type_of% @Go.Abs.endV.eq_1 := id @Go.Abs.endV.eq_1
theorem q_resL_eq_1 : type_of% @Go.Abs.resL.eq_1 := id @Go.Abs.resL.eq_1
theorem q_resL_eq_2 : type_of% @Go.Abs.resL.eq_2 := id @Go.Abs.resL.eq_2
theorem q_resX_eq_1 : type_of% @Go.Abs.resX.eq_1 := id @Go.Abs.resX.eq_1
theorem q_resX_eq_2 : type_of% @Go.Abs.resX.eq_2 := id @Go.Abs.resX.eq_2
theorem q_resCell_eq_1 : type_of% @Go.Abs.resCell.eq_1 := id @Go.Abs.resCell.eq_1
theorem q_one_eq_1 : type_of% @Go.Abs.one.eq_1 := id @Go.Abs.one.eq_1
theorem q_one_eq_2 : type_of% @Go.Abs.one.eq_2 := id @Go.Abs.one.eq_2
theorem q_V_nrm_eq_1 : type_of% @Go.Abs.V.nrm.eq_1 := id @Go.Abs.V.nrm.eq_1
theorem q_V_nrm_eq_2 : type_of% @Go.Abs.V.nrm.eq_2 := id @Go.Abs.V.nrm.eq_2
theorem q_V_nrm_eq_3 : type_of% @Go.Abs.V.nrm.eq_3 := id @Go.Abs.V.nrm.eq_3
theorem q_V_nrm_eq_4 : type_of% @Go.Abs.V.nrm.eq_4 := id @Go.Abs.V.nrm.eq_4
theorem q_V_nrm_eq_5 : type_of% @Go.Abs.V.nrm.eq_5 := id @Go.Abs.V.nrm.eq_5
theorem q_K_nrm_eq_1 : type_of% @Go.Abs.K.nrm.eq_1 := id @Go.Abs.K.nrm.eq_1
theorem q_K_nrm_eq_2 : type_of% @Go.Abs.K.nrm.eq_2 := id @Go.Abs.K.nrm.eq_2
theorem q_K_nrm_eq_3 : type_of% @Go.Abs.K.nrm.eq_3 := id @Go.Abs.K.nrm.eq_3
theorem q_V_nrmL_eq_1 : type_of% @Go.Abs.V.nrmL.eq_1 := id @Go.Abs.V.nrmL.eq_1
theorem q_V_nrmL_eq_2 : type_of% @Go.Abs.V.nrmL.eq_2 := id @Go.Abs.V.nrmL.eq_2
theorem q_O_nrm_eq_1 : type_of% @Go.Abs.O.nrm.eq_1 := id @Go.Abs.O.nrm.eq_1
theorem q_O_nrm_eq_2 : type_of% @Go.Abs.O.nrm.eq_2 := id @Go.Abs.O.nrm.eq_2
theorem q_V_owns_eq_1 : type_of% @Go.Abs.V.owns.eq_1 := id @Go.Abs.V.owns.eq_1
theorem q_V_owns_eq_2 : type_of% @Go.Abs.V.owns.eq_2 := id @Go.Abs.V.owns.eq_2
theorem q_V_owns_eq_3 : type_of% @Go.Abs.V.owns.eq_3 := id @Go.Abs.V.owns.eq_3
theorem q_V_owns_eq_4 : type_of% @Go.Abs.V.owns.eq_4 := id @Go.Abs.V.owns.eq_4
theorem q_K_owns_eq_1 : type_of% @Go.Abs.K.owns.eq_1 := id @Go.Abs.K.owns.eq_1
theorem q_K_owns_eq_2 : type_of% @Go.Abs.K.owns.eq_2 := id @Go.Abs.K.owns.eq_2
theorem q_V_ownsL_eq_1 : type_of% @Go.Abs.V.ownsL.eq_1 := id @Go.Abs.V.ownsL.eq_1
theorem q_V_ownsL_eq_2 : type_of% @Go.Abs.V.ownsL.eq_2 := id @Go.Abs.V.ownsL.eq_2
theorem q_V_toNew_eq_1 : type_of% @Go.Abs.V.toNew.eq_1 := id @Go.Abs.V.toNew.eq_1
theorem q_V_toNew_eq_2 : type_of% @Go.Abs.V.toNew.eq_2 := id @Go.Abs.V.toNew.eq_2
theorem q_V_toNew_eq_3 : type_of% @Go.Abs.V.toNew.eq_3 := id @Go.Abs.V.toNew.eq_3
theorem q_V_toNew_eq_4 : type_of% @Go.Abs.V.toNew.eq_4 := id @Go.Abs.V.toNew.eq_4
theorem q_K_toNew_eq_1 : type_of% @Go.Abs.K.toNew.eq_1 := id @Go.Abs.K.toNew.eq_1
theorem q_K_toNew_eq_2 : type_of% @Go.Abs.K.toNew.eq_2 := id @Go.Abs.K.toNew.eq_2
theorem q_V_toNewL_eq_1 : type_of% @Go.Abs.V.toNewL.eq_1 := id @Go.Abs.V.toNewL.eq_1
theorem q_V_toNewL_eq_2 : type_of% @Go.Abs.V.toNewL.eq_2 := id @Go.Abs.V.toNewL.eq_2
theorem q_C_norm_eq_1 : type_of% @Go.Abs.C.norm.eq_1 := id @Go.Abs.C.norm.eq_1
theorem q_C_norm_eq_4 : type_of% @Go.Abs.C.norm.eq_4 := id @Go.Abs.C.norm.eq_4
theorem q_C_norm_eq_5 : type_of% @Go.Abs.C.norm.eq_5 := id @Go.Abs.C.norm.eq_5
theorem q_C_norm_eq_6 : type_of% @Go.Abs.C.norm.eq_6 := id @Go.Abs.C.norm.eq_6
theorem q_C_normRow_eq_1 : type_of% @Go.Abs.C.normRow.eq_1 := id @Go.Abs.C.normRow.eq_1
theorem q_C_normRow_eq_2 : type_of% @Go.Abs.C.normRow.eq_2 := id @Go.Abs.C.normRow.eq_2
theorem q_C_normRows_eq_1 : type_of% @Go.Abs.C.normRows.eq_1 := id @Go.Abs.C.normRows.eq_1
theorem q_C_normRows_eq_2 : type_of% @Go.Abs.C.normRows.eq_2 := id @Go.Abs.C.normRows.eq_2
theorem q_V_fz_eq_1 : type_of% @Go.Abs.V.fz.eq_1 := id @Go.Abs.V.fz.eq_1
theorem q_V_fz_eq_2 : type_of% @Go.Abs.V.fz.eq_2 := id @Go.Abs.V.fz.eq_2
theorem q_V_fz_eq_4 : type_of% @Go.Abs.V.fz.eq_4 := id @Go.Abs.V.fz.eq_4
theorem q_K_fz_eq_2 : type_of% @Go.Abs.K.fz.eq_2 := id @Go.Abs.K.fz.eq_2
theorem q_V_fzL_eq_1 : type_of% @Go.Abs.V.fzL.eq_1 := id @Go.Abs.V.fzL.eq_1
theorem q_V_fzL_eq_2 : type_of% @Go.Abs.V.fzL.eq_2 := id @Go.Abs.V.fzL.eq_2
theorem q_regN_eq_2 : type_of% @Go.Abs.regN.eq_2 := id @Go.Abs.regN.eq_2
theorem q_V_reg_eq_2 : type_of% @Go.Abs.V.reg.eq_2 := id @Go.Abs.V.reg.eq_2
theorem q_V_reg_eq_3 : type_of% @Go.Abs.V.reg.eq_3 := id @Go.Abs.V.reg.eq_3
theorem q_V_reg_eq_4 : type_of% @Go.Abs.V.reg.eq_4 := id @Go.Abs.V.reg.eq_4
theorem q_K_regs_eq_1 : type_of% @Go.Abs.K.regs.eq_1 := id @Go.Abs.K.regs.eq_1
theorem q_K_regs_eq_2 : type_of% @Go.Abs.K.regs.eq_2 := id @Go.Abs.K.regs.eq_2
theorem q_K_regs_eq_3 : type_of% @Go.Abs.K.regs.eq_3 := id @Go.Abs.K.regs.eq_3
theorem q_V_regL_eq_1 : type_of% @Go.Abs.V.regL.eq_1 := id @Go.Abs.V.regL.eq_1
theorem q_V_regL_eq_2 : type_of% @Go.Abs.V.regL.eq_2 := id @Go.Abs.V.regL.eq_2
theorem q_freesL_eq_1 : type_of% @Go.Abs.freesL.eq_1 := id @Go.Abs.freesL.eq_1
theorem q_freesL_eq_2 : type_of% @Go.Abs.freesL.eq_2 := id @Go.Abs.freesL.eq_2
theorem q_addsL_eq_1 : type_of% @Go.Abs.addsL.eq_1 := id @Go.Abs.addsL.eq_1
theorem q_addsL_eq_2 : type_of% @Go.Abs.addsL.eq_2 := id @Go.Abs.addsL.eq_2
theorem q_regK_eq_1 : type_of% @Go.Abs.regK.eq_1 := id @Go.Abs.regK.eq_1
theorem q_retK_eq_2 : type_of% @Go.Abs.retK.eq_2 := id @Go.Abs.retK.eq_2
theorem q_List_map_nil {α β : Type} {f : α → β} : List.map f [] = [] := id rfl
theorem q_List_map_cons {α β : Type} {f : α → β} {a : α} {l : List α} : List.map f (a :: l) = f a :: List.map f l := id rfl
theorem q_List_take_succ_cons {α : Type} {a : α} {l : List α} {i : Nat} : List.take (i + 1) (a :: l) = a :: List.take i l := id rfl
theorem q_List_take_zero {α : Type} {l : List α} : List.take 0 l = [] := id rfl
theorem q_List_drop_succ_cons {α : Type} {a : α} {l : List α} {i : Nat} : List.drop (i + 1) (a :: l) = List.drop i l := id rfl
theorem q_List_drop_zero {α : Type} {l : List α} : List.drop 0 l = l := id rfl
theorem q_List_nil_append {α : Type} {l : List α} : [] ++ l = l := id rfl
theorem q_List_cons_append {α : Type} {a : α} {l m : List α} : (a :: l) ++ m = a :: (l ++ m) := id rfl
theorem q_List_foldl_cons {α β : Type} {f : β → α → β} {a : α} {l : List α} {b : β} : List.foldl f b (a :: l) = List.foldl f (f b a) l := id rfl
theorem q_List_foldl_nil {α β : Type} {f : β → α → β} {b : β} : List.foldl f b [] = b := id rfl
theorem q_List_replicate_succ {α : Type} {a : α} {n : Nat} : List.replicate (n + 1) a = a :: List.replicate n a := id rfl
theorem q_List_replicate_zero {α : Type} {a : α} : List.replicate 0 a = [] := id rfl
theorem q_List_set_cons_zero {α : Type} {a b : α} {l : List α} : List.set (a :: l) 0 b = b :: l := id rfl
theorem q_List_set_cons_succ {α : Type} {a b : α} {l : List α} {n : Nat} : List.set (a :: l) (n + 1) b = a :: List.set l n b := id rfl
theorem q_List_length_cons {α : Type} {a : α} {l : List α} : (a :: l).length = l.length + 1 := id rfl
theorem q_List_length_nil {α : Type} : ([] : List α).length = 0 := id rfl
theorem q_List_getElemQ_cons_zero {α : Type} {a : α} {l : List α} : (a :: l)[0]? = some a := id rfl
theorem q_List_getElemQ_cons_succ {α : Type} {a : α} {l : List α} {n : Nat} : (a :: l)[n + 1]? = l[n]? := by simp
theorem q_List_getD_cons_zero {α : Type} {a d : α} {l : List α} : (a :: l).getD 0 d = a := id rfl
theorem q_List_all_cons {α : Type} {p : α → Bool} {a : α} {l : List α} : (a :: l).all p = (p a && l.all p) := id rfl
theorem q_List_all_nil {α : Type} {p : α → Bool} : ([] : List α).all p = true := id rfl
theorem q_List_isEmpty_nil {α : Type} : ([] : List α).isEmpty = true := id rfl
theorem q_List_isEmpty_cons {α : Type} {a : α} {l : List α} : (a :: l).isEmpty = false := id rfl
theorem q_List_flatMap_cons {α β : Type} {f : α → List β} {a : α} {l : List α} : List.flatMap f (a :: l) = f a ++ List.flatMap f l := by simp
theorem q_List_flatMap_nil {α β : Type} {f : α → List β} : List.flatMap f [] = [] := id rfl
theorem q_Option_map_some {α β : Type} {f : α → β} {a : α} : Option.map f (some a) = some (f a) := id rfl
theorem q_Option_map_none {α β : Type} {f : α → β} : Option.map f none = none := id rfl
theorem q_Bool_not_true : (!true) = false := id rfl
theorem q_Bool_not_false : (!false) = true := id rfl
theorem q_guardP_eq_1 : type_of% @Go.Abs.guardP.eq_1 := id @Go.Abs.guardP.eq_1
theorem q_guardP_eq_2 : type_of% @Go.Abs.guardP.eq_2 := id @Go.Abs.guardP.eq_2
theorem q_guardP_eq_3 : type_of% @Go.Abs.guardP.eq_3 := id @Go.Abs.guardP.eq_3
theorem q_condK_eq_1 : type_of% @Go.Abs.condK.eq_1 := id @Go.Abs.condK.eq_1
theorem q_condB_eq_1 : type_of% @Go.Abs.condB.eq_1 := id @Go.Abs.condB.eq_1
theorem q_condB_eq_2 : type_of% @Go.Abs.condB.eq_2 := id @Go.Abs.condB.eq_2
theorem q_exK_eq_1 : type_of% @Go.Abs.exK.eq_1 := id @Go.Abs.exK.eq_1
theorem q_exKQ_eq_1 : type_of% @Go.Abs.exKQ.eq_1 := id @Go.Abs.exKQ.eq_1
section
variable (τ : Nat) (ob : O) (e : TypeId) (row : List K)
theorem z_V_k (x : K) : V.frz τ ob (.k x) = .k (x.frz τ ob) := id rfl
theorem z_V_agg (r : List C) : V.frz τ ob (.agg r) = .agg r := id rfl
theorem z_K_c (x : C) : K.frz τ ob (.c x) = .c x := id rfl
theorem z_K_pel (sz : Nat) (rows : List (List C)) (i o : Nat) : K.frz τ ob (.pel sz rows i o) = .pel sz rows i o := id rfl
theorem z_O_var : O.frz τ ob (.var e row) = .var e (row.map (K.frz τ ob)) := id rfl
theorem z_O_arr (sz : Nat) (nl : Option Bool) (rows : List (List C)) : O.frz τ ob (.arr e sz nl rows) = .arr e sz nl rows := id rfl
end
theorem z_frzT (τ : Nat) (ts : TS) (os : OS) (ob : O) : frzT τ ts os (some ob) = mapT (fun v => v.frz τ ob) ts := id rfl
theorem z_frzO (τ : Nat) (os : OS) (ob : O) : frzO τ os (some ob) = mapO (O.frz τ ob) (delO τ os) := id rfl
section
variable (x y : Nat)
end
theorem q_awl_eq_14 : type_of% @Go.Abs.awl.eq_14 := id @Go.Abs.awl.eq_14
def agF (l : List K) : Option (List C) → V
  | some cs => .agg cs
  | none => .agk l
theorem z_agF1 (l : List K) (cs : List C) : agF l (some cs) = .agg cs := id rfl
theorem z_agF2 (l : List K) : agF l none = .agk l := id rfl
section
variable (τ : Nat) (ob : O) (e : TypeId) (sz : Nat) (nl : Option Bool) (rows : List (List C))
theorem z_V_agk (r : List K) : V.frz τ ob (.agk r) = agF (r.map (K.frz τ ob)) (pureRow (r.map (K.frz τ ob))) := by
  simp only [V.frz]
  cases pureRow (r.map (K.frz τ ob)) <;> rfl
theorem z_K_own_arr (s : Nat) : K.frz τ (.arr e sz nl rows) (.own s) = if s = τ then .c (.list sz nl rows) else .own s := id rfl
theorem z_K_elem_arr (s i o : Nat) : K.frz τ (.arr e sz nl rows) (.elem s i o) = if s = τ then .pel sz rows i o else .elem s i o := id rfl
theorem z_K_ptr_arr (s o : Nat) : K.frz τ (.arr e sz nl rows) (.ptr s o) = if s = τ then .dead else .ptr s o := id rfl
end
end Go.Abs


namespace Go.Abs
open Go.Sort Go.Proofs Go.Shelf Go.Lib
section
variable {P : Program} {ρ : Ren} {e : TypeId} {τ : Nat} {l : List Int}
section
variable {f : FuncId} {xs : List AX} {K : KK} {ts : TS} {os : OS} {nl : Option Bool} {X : Prop}
end
end
end Go.Abs


namespace Go.Abs
open Go.Sort Go.Proofs Go.Shelf Go.Lib
section
variable {P : Program} {ρ : Ren} {l : List Int} {w0 : Base} {Z0 : Bk → Prop} {w : World} {κ : Kap} {o : Nat → Option O} {v : Value} {nl : Option Bool}
end
section
variable {P : Program}
def AOp.other : AOp → Bool
  | .mov _ _ => false
  | .call _ _ _ => false
  | _ => true
section
variable {a : Act} {w : World} {ops : Array Oper} {i n : Nat} {o : Oper} {Q : Exit → Act → World → Prop} {K : Act → World → Prop}
end
end
end Go.Abs


namespace Go.Abs
open Go.Proofs Go.Shelf Go.Lib
section
variable {P : Program}
theorem Spec.plain {f : FuncId} {args : List V} {S : V → Prop} (h : Spec P f args S) : Spec P f args (fun r' => ∃ r, S r ∧ r' = r.fz.nrm) := by
  refine ⟨h.1, fun w Z vs hG hz ha => (h.2 w Z vs hG hz ha).mono ?_⟩
  rintro e w' ⟨v, r, rfl, hr, hcl, hrep⟩
  have hnr : ∀ τ, (r.fz.nrm).noRef τ = true := by
    intro τ
    have key : ∀ (r : V), (r.fz).nrm.noRef τ = true := by
      intro r
      have := (fz_noRef τ r).1
      revert this
      generalize r.fz = u
      exact nrm_noRef u
    exact key r
  refine ⟨v, _, rfl, ⟨r, hr, rfl⟩, hnr, fun n => ?_⟩
  obtain ⟨κr, hI⟩ := hrep 0
  have hv := hI.tmps 0
  have e3 : (#[v] : Array Value).getD 0 undef = v := rfl
  simp only [e3, if_true] at hv
  have hreg : ∀ m, ((r.fz.nrm).reg m) = (r.fz.nrm, []) := fun m => reg_fz m r
  rw [hreg]
  refine ⟨fun _ => none, hI.kept, hI.glob, fun τ b h => absurd (by simp [tabOf] : (tabOf n [] : Nat → Option O) τ = none) h, fun τ τ' b h => absurd (by simp [tabOf] : (tabOf n [] : Nat → Option O) τ = none) h, fun τ ob h => ?_, fun s => ?_⟩
  · simp [tabOf] at h
  · by_cases hs : s = 0
    · subst hs
      refine VRep.nrm (fz_rep (Z := Zof (base w) Z κr (tabOf 0 (r.reg 0).2) w') (κ := κr) (o := tabOf 0 (r.reg 0).2) ⟨fun b hb => ?_, fun τ ob hob => ⟨hI.objs τ ob hob, fun c b hb => ?_⟩⟩ r 0 v (fun i ob hob => ?_) hv)
      · exact ⟨hb.1, hb.2.1, fun τ hτ => absurd (by simp [tabOf] : (tabOf n [] : Nat → Option O) τ = none) hτ⟩
      · have := hI.own τ b (by simp only [hob]; simp) hb
        exact ⟨.inr ⟨this.1, soft_of_obj (hI.objs τ ob hob) hb⟩, this.2, fun τ hτ => absurd (by simp [tabOf] : (tabOf n [] : Nat → Option O) τ = none) hτ⟩
      · simp only [tabOf, Nat.zero_le, if_true, Nat.sub_zero, Nat.zero_add]; exact hob
    · simp only [hs, if_false]; trivial
where
  knrm {τ : Nat} : ∀ (k : K), k.noRef τ = true → k.nrm.noRef τ = true := by intro k h; cases k <;> first | exact h | rfl
  nrm_noRef {τ : Nat} : ∀ (u : V), u.noRef τ = true → u.nrm.noRef τ = true
    | .k x, h => by simp only [V.noRef, V.nrm] at h ⊢; exact knrm x h
    | .agg r, h => rfl
    | .agk r, h => by
      simp only [V.noRef, V.nrm, List.all_eq_true, List.mem_map] at h ⊢
      rintro x ⟨y, hy, rfl⟩
      exact knrm y (h y hy)
    | .tup vs, h => by simp only [V.noRef, V.nrm] at h ⊢; exact nrm_noRefL vs h
    | .undef, h => rfl
    | .any, h => rfl
  nrm_noRefL {τ : Nat} : ∀ (us : List V), V.noRefL τ us = true → V.noRefL τ (V.nrmL us) = true
    | [], h => rfl
    | u :: us, h => by simp only [V.noRefL, V.nrmL, Bool.and_eq_true] at h ⊢; exact ⟨nrm_noRef u h.1, nrm_noRefL us h.2⟩
  regs_fz : ∀ (l : List K) (m : Nat), K.regs m ((l.map Abs.K.fz).map Abs.K.nrm) = ((l.map Abs.K.fz).map Abs.K.nrm, [])
    | [], m => rfl
    | k :: l, m => by cases k <;> simp only [List.map_cons, Abs.K.fz, Abs.K.nrm, K.regs, regs_fz l m]
  reg_fz (m : Nat) : ∀ (r : V), (r.fz.nrm).reg m = (r.fz.nrm, [])
    | .k x => by cases x <;> rfl
    | .agg r => rfl
    | .agk r => by
      simp only [V.fz]
      cases e : pureRow (r.map Abs.K.fz) with
      | some cs => rfl
      | none => simp only [V.nrm, V.reg, regs_fz r m]
    | .tup vs => by simp only [V.fz, V.nrm, V.reg, regL_fz m vs]
    | .undef => rfl
    | .any => rfl
  regL_fz (m : Nat) : ∀ (rs : List V), V.regL m (V.nrmL (V.fzL rs)) = (V.nrmL (V.fzL rs), [])
    | [] => rfl
    | r :: rs => by simp only [V.fzL, V.nrmL, V.regL, reg_fz m r, List.length_nil, Nat.add_zero, regL_fz m rs, List.append_nil]
end
end Go.Abs


namespace Go.Abs
open Go.Proofs Go.Shelf Go.Lib
section
variable {P : Program}
theorem rrep_pure {w w' : World} {Z : Bk → Prop} {r : V} {v : Value} (hG : GlobB (base w)) (hk : Kept w w') (hr : ∀ n, r.reg n = (r, [])) (hp : ∀ Z, VRep w' Z (fun _ => none) (fun _ => none) r v) : RRep (base w) Z r v w' := by
  intro n
  have e0 : (tabOf n (r.reg n).2 : Nat → Option O) = fun _ => none := by
    funext τ
    rw [hr]
    simp [tabOf]
  rw [e0, hr]
  refine ⟨fun _ => none, hk, hG, fun τ b h => absurd rfl h, fun τ τ' b h => absurd rfl h, fun τ ob h => (by cases h), fun s => ?_⟩
  by_cases hs : s = 0
  · subst hs
    exact hp _
  · simp only [hs, if_false]; trivial
theorem kept_grow {w : World} (k : Nat) (os : Array Obj) : Kept w (Sort.grow (w.drewN k) os) := by
  refine ⟨rfl, rfl, rfl, ?_, fun b hb => ?_⟩
  · show w.heap.size ≤ (w.heap ++ os).size
    rw [Array.size_append]; omega
  · show (w.heap ++ os)[b]? = w.heap[b]?
    exact Array.getElem?_append_left hb
theorem itoa_spec {ρ : Ren} (L : LaysM.n171 P ρ) (hc : Callable P (ρ.f 171)) (htab : ∀ w, GlobB (base w) → Lib.TabIs P w "internal/strconv.uint64pow10" .u64 Lib.pow10Tab) (n : Int) (h0 : -9223372036854775808 ≤ n) (h1 : n ≤ 9223372036854775807) :
    Spec P (ρ.f 171) [.int .i64 n] (fun r => r = .str (Lib.itoa n)) := by
  refine ⟨hc, fun w Z vs hG hz ha => ?_⟩
  obtain ⟨l⟩ := vs
  match l, ha with
  | [], ha => exact absurd ha.1 (by simp)
  | _ :: _ :: _, ha => exact absurd ha.1 (by simp)
  | [v1], ha =>
    have e1 : v1 = .int .i64 n := prep_int (ha.2 0 _ v1 rfl rfl).2.2
    subst e1
    refine (Any.strconv_Itoa L n h0 h1 w (htab w hG)).mono ?_
    rintro e w' ⟨rfl, k, os, rfl⟩
    exact ⟨_, _, rfl, rfl, fun _ => rfl, rrep_pure hG (kept_grow k os) (fun _ => rfl) (fun _ => ⟨rfl, .str _⟩)⟩
end
end Go.Abs


namespace Go.Abs
open Go.ChangeShapes Go.RowKit
def fldsOk (P : Program) : Nat → List Field → Nat → Bool
  | k, [], n => k == n
  | k, f :: fs, n => f.offset == k && fldsOk P (k + P.cellsOf f.type) fs n
def plainT (P : Program) (T : List TypeId) : Bool := T.all fun t =>
  match P.underlying t with
  | some .bool | some (.int _) | some .string => P.cellsOf t == 1
  | some (.slice e) => P.cellsOf t == 1 && T.contains e && decide (0 < P.cellsOf e)
  | some (.struct fs) => fs.toList.all (fun f => T.contains f.type) && fldsOk P 0 fs.toList (P.cellsOf t)
  | _ => false
def ShapeL (S : TypeId → List C → Prop) : List TypeId → List (List C) → Prop
  | [], [] => True
  | t :: ts, r :: rs => S t r ∧ ShapeL S ts rs
  | _, _ => False
def Shape (P : Program) : Nat → TypeId → List C → Prop
  | 0, _, _ => False
  | n + 1, t, r =>
    match P.underlying t with
    | some .bool => ∃ b, r = [.bool b]
    | some (.int k) => ∃ m, r = [.int k m] ∧ (Lit.int k m).wf = true
    | some .string => ∃ s : List UInt8, r = [.str s] ∧ s.length ≤ 9223372036854775807
    | some (.slice e) => ∃ rows : List (List C), r = [.list (if rows.isEmpty then 0 else P.cellsOf e) none rows] ∧ rows.length ≤ 9223372036854775807 ∧ ∀ x ∈ rows, Shape P n e x
    | some (.struct fs) => ∃ rs, r = rs.flatten ∧ ShapeL (Shape P n) (fs.toList.map (·.type)) rs
    | _ => False
mutual
def C.bulk : C → Nat
  | .str s => s.length + 1
  | .list _ _ rows => C.bulkRows rows + 1
  | _ => 1
def C.bulkRow : List C → Nat
  | [] => 0
  | c :: r => c.bulk + C.bulkRow r
def C.bulkRows : List (List C) → Nat
  | [] => 0
  | r :: l => C.bulkRow r + C.bulkRows l
end
theorem bulkRow_append : ∀ (a b : List C), C.bulkRow (a ++ b) = C.bulkRow a + C.bulkRow b
  | [], b => by simp [C.bulkRow]
  | x :: a, b => by simp only [List.cons_append, C.bulkRow, bulkRow_append a b]; omega
def V.bulk : V → Nat
  | .k (.c c) => c.bulk
  | .agg r => C.bulkRow r
  | _ => 0
def bulkVs : List V → Nat
  | [] => 0
  | v :: l => v.bulk + bulkVs l
structure Bulk {H : Type} (U : DataW H → Nat) (UA : List (DataW H) → Nat) : Prop where
  one : ∀ d, 1 ≤ U d
  str : ∀ s, s.length + 1 ≤ U (.lit (.string s))
  slice : ∀ es sp, UA es + 1 ≤ U (.slice es sp)
  agg : ∀ ps, UA ps ≤ U (.agg ps)
  cons : ∀ d l, UA (d :: l) = U d + UA l
section
variable {H : Type} {enc : TypeId × Value → H} {P : Program} {T : List TypeId}
theorem bulkRows_le {U : DataW H → Nat} {UA : List (DataW H) → Nat} (hB : Bulk U UA) : ∀ (rows : List (List C)) (ds : List (DataW H)), rows.length = ds.length → (∀ (i : Nat) r d, rows[i]? = some r → ds[i]? = some d → C.bulkRow r ≤ U d) → C.bulkRows rows ≤ UA ds
  | [], ds, _, _ => by simp [C.bulkRows]
  | r :: rows, [], h, _ => by simp at h
  | r :: rows, d :: ds, h, hr => by
    have h1 := hr 0 r d rfl rfl
    have h2 := bulkRows_le hB rows ds (by simpa using h) fun i r d hi hd => hr (i + 1) r d (by simpa using hi) (by simpa using hd)
    simp only [C.bulkRows, hB.cons]
    omega
theorem plain_at (hT : plainT P T = true) {t : TypeId} (ht : t ∈ T) : (match P.underlying t with
  | some .bool | some (.int _) | some .string => P.cellsOf t == 1
  | some (.slice e) => P.cellsOf t == 1 && T.contains e && decide (0 < P.cellsOf e)
  | some (.struct fs) => fs.toList.all (fun f => T.contains f.type) && fldsOk P 0 fs.toList (P.cellsOf t)
  | _ => false) = true := List.all_eq_true.1 hT t ht
theorem fieldsLen {n : Nat} (ih : ∀ t r, t ∈ T → Shape P n t r → r.length = P.cellsOf t) : ∀ (fs : List Field) (k N : Nat) (rs : List (List C)), (∀ f ∈ fs, f.type ∈ T) → fldsOk P k fs N = true →
    ShapeL (Shape P n) (fs.map (·.type)) rs → k + rs.flatten.length = N
  | [], k, N, [], _, h, _ => by simpa [fldsOk] using h
  | f :: fs, k, N, r :: rs, hf, h, hs => by
    simp only [fldsOk, Bool.and_eq_true] at h
    have h1 := ih _ _ (hf f (by simp)) hs.1
    have h2 := fieldsLen ih fs _ N rs (fun g hg => hf g (by simp [hg])) h.2 hs.2
    simp only [List.flatten_cons, List.length_append, h1]
    omega
  | [], _, _, _ :: _, _, _, h => h.elim
  | _ :: _, _, _, [], _, _, h => h.elim
theorem Shape.len (hT : plainT P T = true) : ∀ (n : Nat) (t : TypeId) (r : List C), t ∈ T → Shape P n t r → r.length = P.cellsOf t
  | 0, _, _, _, h => h.elim
  | n + 1, t, r, ht, h => by
    have hp := plain_at hT ht
    simp only [Shape] at h
    split at h
    · rename_i hu; rw [hu] at hp
      obtain ⟨b, rfl⟩ := h
      simp only [beq_iff_eq] at hp; simp [hp]
    · rename_i hu; rw [hu] at hp
      obtain ⟨m, rfl, _⟩ := h
      simp only [beq_iff_eq] at hp; simp [hp]
    · rename_i hu; rw [hu] at hp
      obtain ⟨m, rfl, _⟩ := h
      simp only [beq_iff_eq] at hp; simp [hp]
    · rename_i hu; rw [hu] at hp
      obtain ⟨m, rfl, _⟩ := h
      simp only [Bool.and_eq_true, beq_iff_eq] at hp; simp [hp]
    · rename_i fs hu; rw [hu] at hp
      obtain ⟨rs, rfl, hs⟩ := h
      simp only [Bool.and_eq_true, List.all_eq_true, List.contains_iff_mem] at hp
      have := fieldsLen (Shape.len hT n) fs.toList 0 (P.cellsOf t) rs (fun f hf => hp.1 f hf) hp.2 hs
      omega
    · exact h.elim
theorem choose_list {α β : Type} {R : Nat → β → Prop} : ∀ (n : Nat), (∀ i, i < n → ∃ b, R i b) → ∃ l : List β, l.length = n ∧ ∀ (i : Nat) b, l[i]? = some b → R i b
  | 0, _ => ⟨[], rfl, by simp⟩
  | n + 1, h => by
    obtain ⟨l, hl, hr⟩ := choose_list (α := α) n (fun i hi => h i (by omega))
    obtain ⟨b, hb⟩ := h n (by omega)
    refine ⟨l ++ [b], by simp [hl], fun i c hc => ?_⟩
    rcases Nat.lt_or_ge i l.length with hi | hi
    · rw [List.getElem?_append_left hi] at hc; exact hr i c hc
    · rw [List.getElem?_append_right hi] at hc
      have : i - l.length = 0 := by
        rcases Nat.eq_zero_or_pos (i - l.length) with h0 | h0
        · exact h0
        · obtain ⟨m, hm⟩ : ∃ m, i - l.length = m + 1 := ⟨i - l.length - 1, by omega⟩
          rw [hm] at hc; simp at hc
      rw [this] at hc
      simp at hc
      subst hc
      have : i = n := by omega
      subst this; exact hb
theorem cells_at {w : World} {a : Addr} {n : Nat} {cs : List Value} (h : w.cells? 0 a n = some cs) : cs.length = n ∧ ∀ j, j < n → w.cell? (a.add j) = cs[j]? := by
  unfold World.cells? at h
  rw [if_pos (Nat.zero_le _)] at h
  refine ⟨by simpa using mapM_some_length h, fun j hj => ?_⟩
  exact mapM_some_get h j j (by simp [hj])
theorem prow_append {w : World} {Z : Bk → Prop} {r1 r2 : List C} {c1 c2 : List Value} (h1 : PRow w Z r1 c1) (h2 : PRow w Z r2 c2) : PRow w Z (r1 ++ r2) (c1 ++ c2) := by
  obtain ⟨l1, g1⟩ := h1
  obtain ⟨l2, g2⟩ := h2
  refine ⟨by simp [l1, l2], fun j c v hc hv => ?_⟩
  rcases Nat.lt_or_ge j r1.length with hj | hj
  · rw [List.getElem?_append_left hj] at hc
    rw [List.getElem?_append_left (by omega)] at hv
    exact g1 j c v hc hv
  · rw [List.getElem?_append_right hj] at hc
    rw [List.getElem?_append_right (by omega)] at hv
    rw [l1] at hv
    exact g2 _ c v hc hv
theorem prow_one {w : World} {Z : Bk → Prop} {c : C} {v : Value} (h : PRep w Z c v) : PRow w Z [c] [v] := by
  refine ⟨rfl, fun j c' v' hc hv => ?_⟩
  cases j with
  | zero => simp at hc hv; subst hc; subst hv; exact h
  | succ j => simp at hc
theorem fields_row {w : World} {Z : Bk → Prop} {n : Nat} {cs : List Value} {N : Nat} (ih : ∀ t cs x, t ∈ T → DataW.trod enc P w 0 (fun _ => true) true n t cs = some x → ∃ r, Shape P n t r ∧ PRow w Z r cs ∧ ∀ (U : DataW H → Nat) (UA : List (DataW H) → Nat), Bulk U UA → C.bulkRow r ≤ U x.1) (hcs : cs.length = N) :
    ∀ (fs : List Field) (k : Nat) (xs : List (DataW H × List MemPlace)), (∀ f ∈ fs, f.type ∈ T) → fldsOk P k fs N = true → k ≤ N → xs.length = fs.length →
      (∀ (i : Nat) f, fs[i]? = some f → DataW.trod enc P w 0 (fun _ => true) true n f.type ((cs.drop f.offset).take (P.cellsOf f.type)) = xs[i]?) →
      ∃ rs, ShapeL (Shape P n) (fs.map (·.type)) rs ∧ PRow w Z rs.flatten (cs.drop k) ∧ ∀ (U : DataW H → Nat) (UA : List (DataW H) → Nat), Bulk U UA → C.bulkRow rs.flatten ≤ UA (xs.map (·.1))
  | [], k, xs, _, h, hk, _, _ => by
    simp only [fldsOk, beq_iff_eq] at h
    refine ⟨[], trivial, ?_, fun _ _ _ => by simp [C.bulkRow]⟩
    rw [List.drop_eq_nil_of_le (by omega)]
    exact ⟨rfl, by simp⟩
  | f :: fs, k, [], hf, h, hk, hl, hx => by simp at hl
  | f :: fs, k, x :: xs, hf, h, hk, hl, hx => by
    simp only [fldsOk, Bool.and_eq_true, beq_iff_eq] at h
    obtain ⟨ho, h⟩ := h
    have hle : ∀ (fs : List Field) (k : Nat), fldsOk P k fs N = true → k ≤ N := by
      intro fs
      induction fs with
      | nil => intro k h; simp [fldsOk] at h; omega
      | cons g gs ihg => intro k h; simp only [fldsOk, Bool.and_eq_true] at h; have := ihg _ h.2; omega
    have hk2 := hle fs _ h
    have hx1 := hx 0 f rfl
    obtain ⟨r, hs, hr, hb⟩ := ih _ _ _ (hf f (by simp)) hx1
    obtain ⟨rs, hss, hrs, hbs⟩ := fields_row ih hcs fs (k + P.cellsOf f.type) xs (fun g hg => hf g (by simp [hg])) h hk2 (by simpa using hl) (fun i g hg => hx (i + 1) g (by simpa using hg))
    refine ⟨r :: rs, ⟨hs, hss⟩, ?_, fun U UA hB => ?_⟩
    · have e : cs.drop k = (cs.drop f.offset).take (P.cellsOf f.type) ++ cs.drop (k + P.cellsOf f.type) := by
        rw [ho, ← List.drop_drop]
        exact (List.take_append_drop _ _).symm
      rw [e]
      exact prow_append hr hrs
    · have h1 := hb U UA hB
      have h2 := hbs U UA hB
      rw [List.flatten_cons, bulkRow_append, List.map_cons, hB.cons]
      omega
theorem trod_row (hT : plainT P T = true) {w : World} {Z : Bk → Prop} (hZ : ∀ b, b.2 < w.heap.size → Z b) : ∀ (n : Nat) (t : TypeId) (cs : List Value) (x : DataW H × List MemPlace), t ∈ T →
    DataW.trod enc P w 0 (fun _ => true) true n t cs = some x → ∃ r, Shape P n t r ∧ PRow w Z r cs ∧ ∀ (U : DataW H → Nat) (UA : List (DataW H) → Nat), Bulk U UA → C.bulkRow r ≤ U x.1
  | 0, _, _, _, _, h => by simp [DataW.trod] at h
  | n + 1, t, cs, x, ht, h => by
    have hp := plain_at hT ht
    simp only [Shape]
    split
    · rename_i hu
      obtain ⟨b, rfl, _⟩ := DataW.trod_bool hu h
      exact ⟨[.bool b], ⟨b, rfl⟩, prow_one (.bool b), fun U UA hB => hB.one _⟩
    · rename_i k hu
      obtain ⟨m, rfl, _, hw⟩ := DataW.trod_int hu h
      exact ⟨[.int k m], ⟨m, rfl, hw⟩, prow_one (.int k m), fun U UA hB => hB.one _⟩
    · rename_i hu
      obtain ⟨s, rfl, rfl, hs⟩ := DataW.trod_string hu h
      refine ⟨[.str s.data.toList], ⟨_, rfl, ?_⟩, prow_one ?_, fun U UA hB => hB.str _⟩
      · have h2 : s.size ≤ 9223372036854775807 := hs
        have e : s.data.toList.length = s.size := by rw [Array.length_toList]; rfl
        omega
      · have := PRep.str (w := w) (Z := Z) s.data.toList
        simpa using this
    · rename_i e hu
      rw [hu] at hp
      simp only [Bool.and_eq_true, decide_eq_true_eq, List.contains_iff_mem, beq_iff_eq] at hp
      obtain ⟨⟨_, he⟩, h0⟩ := hp
      rcases DataW.trod_slice hu h with ⟨rfl, _⟩ | ⟨a, len, cap, elems, rest, m, hm, rfl, rfl, _, hlc, hcap, hlen, hel, hre, _⟩
      · exact ⟨[.list 0 none []], ⟨[], by simp, by simp, by simp⟩, prow_one (.nil 0 none (by simp)), fun U UA hB => hB.one _⟩
      · obtain rfl : n = m := by omega
        have hmax : cap ≤ 9223372036854775807 := hcap
        by_cases hc0 : cap = 0
        · subst hc0
          obtain rfl : len = 0 := by omega
          exact ⟨[.list 0 none []], ⟨[], by simp, by simp, by simp⟩, prow_one (.emp 0 none a (by simp)), fun U UA hB => hB.one _⟩

        have read : ∀ i, i < cap → ∃ cs' y, w.cells? 0 (a.add (i * P.cellsOf e)) (P.cellsOf e) = some cs' ∧ DataW.trod enc P w 0 (fun _ => true) true n e cs' = some y := by
          intro i hi
          rcases Nat.lt_or_ge i len with hil | hil
          · have := hel i hil
            rw [List.getElem?_eq_getElem (by omega)] at this
            obtain ⟨cs', h1, h2⟩ := Option.bind_eq_some_iff.1 this
            exact ⟨cs', _, h1, h2⟩
          · obtain ⟨hr1, hr2⟩ := hre rfl
            have := hr2 (i - len) (by omega)
            rw [List.getElem?_eq_getElem (by omega)] at this
            obtain ⟨cs', h1, h2⟩ := Option.bind_eq_some_iff.1 this
            have hi2 : len + (i - len) = i := by omega
            rw [hi2] at h1
            exact ⟨cs', _, h1, h2⟩
        have hspot : ∃ b o, a = ⟨b, o, none⟩ := by
          obtain ⟨cs', y, h1, _⟩ := read 0 (by omega)
          obtain ⟨hl, hc⟩ := cells_at h1
          have := hc 0 h0
          rw [List.getElem?_eq_getElem (by omega)] at this
          have := World.cell?_spot this
          obtain ⟨b, o, sp⟩ := a
          simp [Addr.add] at this
          subst this
          exact ⟨b, o, rfl⟩
        obtain ⟨b, o, rfl⟩ := hspot
        obtain ⟨rows, hrl, hrows⟩ := choose_list (α := Unit) (R := fun i r => Shape P n e r ∧ (∀ (U : DataW H → Nat) (UA : List (DataW H) → Nat), Bulk U UA → ∀ y, elems[i]? = some y → C.bulkRow r ≤ U y.1) ∧ ∃ cs', (∀ j, j < P.cellsOf e → w.cell? ⟨b, o + (i * P.cellsOf e + j), none⟩ = cs'[j]?) ∧ PRow w Z r cs') len (by
          intro i hi
          obtain ⟨cs', y, h1, h2⟩ := read i (by omega)
          obtain ⟨r, hs, hr, hb⟩ := trod_row hT hZ n e cs' y he h2
          refine ⟨r, hs, fun U UA hB y' hy' => ?_, cs', fun j hj => ?_, hr⟩
          · have := hel i hi
            rw [h1, Option.bind_some, h2, hy'] at this
            cases this
            exact hb U UA hB
          have := (cells_at h1).2 j hj
          rw [addr_add, addr_add] at this
          rw [← this, Nat.add_assoc])
        have hb : b < w.heap.size := by
          obtain ⟨cs', y, h1, _⟩ := read 0 (by omega)
          obtain ⟨hl, hc⟩ := cells_at h1
          have := hc 0 h0
          rw [List.getElem?_eq_getElem (by omega)] at this
          have := World.block_lt_of_cell? w _ this
          simpa [Addr.add] using this
        have hall : ∀ r, r ∈ rows → r.length = P.cellsOf e := by
          intro r hr
          obtain ⟨i, hi⟩ := List.getElem?_of_mem hr
          exact Shape.len hT n e r he (hrows i r hi).1
        refine ⟨[.list (if rows.isEmpty then 0 else P.cellsOf e) none rows], ⟨rows, rfl, by omega, fun r hr => ?_⟩, prow_one ?_, fun U UA hB => ?_⟩
        · obtain ⟨i, hi⟩ := List.getElem?_of_mem hr
          exact (hrows i r hi).1
        · have hnil : rows ≠ [] → (if rows.isEmpty = true then 0 else P.cellsOf e) = P.cellsOf e := by intro hne; cases rows <;> simp_all
          have key := PRep.list (w := w) (Z := Z) b o cap (if rows.isEmpty = true then 0 else P.cellsOf e) none rows (fun i j => (w.cell? ⟨b, o + (i * P.cellsOf e + j), none⟩).getD undef) (by simp) (by omega) hcap
            (fun _ => hZ _ hb) (fun r hr => by rw [hnil (by rintro rfl; simp at hr)]; exact hall r hr) (fun i j r c hr hc => ?_) (fun i j r c hr hc => ?_)
          · rw [hrl] at key; exact key
          · obtain ⟨_, _, cs', h1, h2⟩ := hrows i r hr
            have hj : j < P.cellsOf e := by rw [← hall r (List.mem_of_getElem? hr)]; exact (List.getElem?_eq_some_iff.1 hc).1
            rw [hnil (by rintro rfl; simp at hr)]
            rw [h1 j hj, List.getElem?_eq_getElem (by rw [h2.1]; exact (List.getElem?_eq_some_iff.1 hc).1)]
            rfl
          · obtain ⟨_, _, cs', h1, h2⟩ := hrows i r hr
            have hj : j < P.cellsOf e := by rw [← hall r (List.mem_of_getElem? hr)]; exact (List.getElem?_eq_some_iff.1 hc).1
            have hj2 : j < cs'.length := by rw [h2.1]; exact (List.getElem?_eq_some_iff.1 hc).1
            have := h1 j hj
            rw [List.getElem?_eq_getElem hj2] at this
            simp only [this, Option.getD_some]
            exact h2.2 j c _ hc (List.getElem?_eq_getElem hj2)
        · have h1 := bulkRows_le hB rows (elems.map (·.1)) (by simp [hrl, hlen]) fun i r d hr hd => by
            simp only [List.getElem?_map, Option.map_eq_some_iff] at hd
            obtain ⟨y, hy, rfl⟩ := hd
            exact (hrows i r hr).2.1 U UA hB y hy
          have h2 := hB.slice (elems.map (·.1)) (rest.map (·.1))
          simp only [C.bulkRow, C.bulk]
          omega
    · rename_i fs hu
      rw [hu] at hp
      simp only [Bool.and_eq_true, List.all_eq_true, List.contains_iff_mem] at hp
      obtain ⟨xs, m, hm, rfl, hcl, hxl, hx⟩ := DataW.trod_struct hu h
      obtain rfl : n = m := by omega
      obtain ⟨rs, h1, h2, h3⟩ := fields_row (enc := enc) (fun t cs x => trod_row hT hZ n t cs x) hcl fs.toList 0 xs hp.1 hp.2 (Nat.zero_le _) (by simpa using hxl) (fun i f hf => hx i f (by simpa using hf))
      exact ⟨_, ⟨rs, rfl, h1⟩, by simpa using h2, fun U UA hB => Nat.le_trans (h3 U UA hB) (hB.agg _)⟩
    · rename_i h1 h2 h3 h4 h5
      exfalso
      revert hp
      split <;> simp_all
def argV (P : Program) (t : TypeId) (r : List C) : V :=
  match P.underlying t with
  | some (.struct _) => .agg r
  | _ => match r with | [c] => .k (.c c) | _ => .any
def ArgsOf (P : Program) : List TypeId → List V → Prop
  | [], [] => True
  | t :: ts, v :: vs => (∃ n r, Shape P n t r ∧ v = argV P t r) ∧ ArgsOf P ts vs
  | _, _ => False
theorem trodAll_args (hT : plainT P T = true) {w : World} {Z : Bk → Prop} (hZ : ∀ b, b.2 < w.heap.size → Z b) {base : Nat} : ∀ (ts : List TypeId) (vs : List Value) (ds : List (DataW H)) (ps : List MemPlace), (∀ t ∈ ts, t ∈ T) →
    (∀ (j : Nat) t v, ts[j]? = some t → vs[j]? = some v → Value.okWide P w .any base t v) →
    DataW.TrodAll enc P w 0 (fun _ => true) true ts vs ds ps → ∃ xs, ArgsOf P ts xs ∧ ARep w Z xs vs ∧ ∀ (U : DataW H → Nat) (UA : List (DataW H) → Nat), Bulk U UA → bulkVs xs ≤ UA ds
  | [], [], [], _, _, _, _ => ⟨[], trivial, ⟨rfl, by simp⟩, fun _ _ _ => by simp [bulkVs]⟩
  | t :: ts, v :: vs, d :: ds, ps, hm, hok, ⟨p, q, ⟨n, h1⟩, h2, _⟩ => by
    obtain ⟨r, hs, hr, hb⟩ := trod_row hT hZ n t _ _ (hm t (by simp)) h1
    obtain ⟨xs, hx, ha, hbs⟩ := trodAll_args hT hZ ts vs ds q (fun t ht => hm t (by simp [ht])) (fun j t v h h' => hok (j + 1) t v (by simpa using h) (by simpa using h')) h2
    have hv := hok 0 t v rfl rfl
    have key : ∃ x, x = argV P t r ∧ x.isPure = true ∧ VRep w Z (fun _ => none) (fun _ => none) x v ∧ x.bulk ≤ C.bulkRow r := by
      have hp := plain_at hT (hm t (by simp))
      unfold Value.okWide at hv
      cases n with
      | zero => exact hs.elim
      | succ n =>
      simp only [Shape] at hs
      have one : ∀ c, r = [c] → (∀ cs, v ≠ .agg cs) → (∀ cs, v ≠ .tuple cs) → V.isPure (.k (.c c)) = true ∧ VRep w Z (fun _ => none) (fun _ => none) (.k (.c c)) v ∧ V.bulk (.k (.c c)) ≤ C.bulkRow r := by
        rintro c rfl hna hnt
        have hc : v.cells = #[v] := by cases v <;> simp [Value.cells] <;> (first | exact absurd rfl (hna _) | exact absurd rfl (hnt _))
        rw [hc] at hr
        have := hr.2 0 c v rfl rfl
        exact ⟨rfl, ⟨this.oneCell, this⟩, by simp [V.bulk, C.bulkRow]⟩
      have nagg : ∀ {d : TypeDesc}, P.underlying t = some d → (∀ fs, d ≠ .struct fs) → (∀ n e, d ≠ .array n e) → (∀ m, d ≠ .interface m) → (∀ k e, d ≠ .map k e) → Cell.okWide P w .any base t v → True := fun _ _ _ _ _ _ => trivial
      split at hs
      · rename_i hu
        unfold argV; rw [hu] at hv ⊢
        obtain ⟨b, rfl⟩ := hs
        simp only [Cell.okWide, Cell.ok, hu] at hv
        refine ⟨_, rfl, one _ rfl ?_ ?_⟩ <;> rintro cs rfl <;> simp at hv
      · rename_i hu
        unfold argV; rw [hu] at hv ⊢
        obtain ⟨b, rfl, _⟩ := hs
        simp only [Cell.okWide, Cell.ok, hu] at hv
        refine ⟨_, rfl, one _ rfl ?_ ?_⟩ <;> rintro cs rfl <;> simp at hv
      · rename_i hu
        unfold argV; rw [hu] at hv ⊢
        obtain ⟨b, rfl, _⟩ := hs
        simp only [Cell.okWide, Cell.ok, hu] at hv
        refine ⟨_, rfl, one _ rfl ?_ ?_⟩ <;> rintro cs rfl <;> simp at hv
      · rename_i hu
        unfold argV; rw [hu] at hv ⊢
        obtain ⟨b, rfl, _⟩ := hs
        simp only [Cell.okWide, Cell.ok, hu] at hv
        refine ⟨_, rfl, one _ rfl ?_ ?_⟩ <;> rintro cs rfl <;> simp at hv
      · rename_i fs hu
        unfold argV; rw [hu] at hv ⊢
        obtain ⟨cs, rfl, _⟩ := hv
        exact ⟨_, rfl, rfl, ⟨cs, rfl, by simpa [Value.cells] using hr⟩, Nat.le_refl _⟩
      · exact hs.elim
    obtain ⟨x, hx1, hx2, hx3, hx4⟩ := key
    refine ⟨x :: xs, ⟨⟨n, r, hs, hx1⟩, hx⟩, ⟨by simp [ha.1], fun j y u hy hu => ?_⟩, fun U UA hB => by
      have h1 : C.bulkRow r ≤ U d := hb U UA hB
      have h2 := hbs U UA hB
      simp only [bulkVs, hB.cons]
      omega⟩
    cases j with
    | zero => simp at hy hu; subst hy; subst hu; exact ⟨hx2, hx3⟩
    | succ j => exact ha.2 j y u (by simpa using hy) (by simpa using hu)
  | [], _ :: _, _, _, _, _, h => by simp [DataW.TrodAll] at h
  | [], [], _ :: _, _, _, _, h => by simp [DataW.TrodAll] at h
  | _ :: _, [], _, _, _, _, h => by simp [DataW.TrodAll] at h
  | _ :: _, _ :: _, [], _, _, _, h => by simp [DataW.TrodAll] at h
theorem kept_keptBut {w w' : World} (h : Kept w w') (may : MemPlace → Prop) : w.keptBut w' may := by
  refine ⟨h.os, h.output, fun i hi => ?_⟩
  rw [h.block i hi]
  have := (World.keptBut_refl w may).2.2 i hi
  exact this
theorem trodAll_carry {w w' : World} : ∀ {ts : List TypeId} {vs : List Value} {ds : List (DataW H)} {ps : List MemPlace}, DataW.TrodAll enc P w 0 (fun _ => true) true ts vs ds ps → (∀ p ∈ ps, w.sameAt w' p) → DataW.TrodAll enc P w' 0 (fun _ => true) true ts vs ds ps
  | [], [], [], _, h, _ => h
  | _ :: _, _ :: _, _ :: _, _, ⟨p, q, ⟨n, h1⟩, h2, e⟩, hs => by
    subst e
    exact ⟨p, q, ⟨n, DataW.trod_carry _ _ _ _ h1 (fun x hx => hs x (List.mem_append_left _ hx))⟩, trodAll_carry h2 (fun x hx => hs x (List.mem_append_right _ hx)), rfl⟩
  | [], _ :: _, _, _, h, _ => by simp [DataW.TrodAll] at h
  | [], [], _ :: _, _, h, _ => by simp [DataW.TrodAll] at h
  | _ :: _, [], _, _, h, _ => by simp [DataW.TrodAll] at h
  | _ :: _, _ :: _, [], _, h, _ => by simp [DataW.TrodAll] at h
theorem trodAll_len {w : World} : ∀ {ts : List TypeId} {vs : List Value} {ds : List (DataW H)} {ps : List MemPlace}, DataW.TrodAll enc P w 0 (fun _ => true) true ts vs ds ps → ds.length = ts.length
  | [], [], [], _, _ => rfl
  | _ :: _, _ :: _, _ :: _, _, ⟨_, _, _, h2, _⟩ => by simp [trodAll_len h2]
  | [], _ :: _, _, _, h => by simp [DataW.TrodAll] at h
  | [], [], _ :: _, _, h => by simp [DataW.TrodAll] at h
  | _ :: _, [], _, _, h => by simp [DataW.TrodAll] at h
  | _ :: _, _ :: _, [], _, h => by simp [DataW.TrodAll] at h
theorem law_contractU {C : Checked} {f : FuncId} {fn : Func} {s : ChangeSpec} {apart fresh handsOn again : Bool} {tb : TypeId}
    (hT : plainT C.prog T = true) (hTl : ∀ t ∈ T, t < C.prog.types.size) (hpar : ∀ t ∈ fn.params.toList, t ∈ T) (kids : Kids C.prog (· < C.prog.types.size))
    (full : ∀ t e, t < C.prog.types.size → C.prog.underlying t = some (.slice e) → 0 < C.prog.cellsOf e)
    (hvars : s.vars = []) (hs : ∀ ds : List (DataW H), ds.length = fn.params.size → s.fn H ds = { results := [.lit (.bool true)], args := ds })
    (hres : fn.resultTypes.toList = [tb]) (htb : C.prog.underlying tb = some .bool)
    (W : World) (base : Nat) (args : Array Value) (ds gs : List (DataW H)) (before : List MemPlace)
    {N : Nat} (spec : ∀ xs, ArgsOf C.prog fn.params.toList xs → ((∃ (U : DataW H → Nat) (UA : List (DataW H) → Nat), Bulk U UA ∧ UA (ds ++ gs) ≤ N) → bulkVs xs ≤ N) → Spec C.prog f xs (fun r => r = .bool true))
    (hval : ∀ (j : Nat) t v, fn.params[j]? = some t → args[j]? = some v → Value.okWide C.prog W .any base t v)
    (hW : DataW.Whole enc C.prog fn.params.toList s.vars apart W args.toList ds gs before) (hG : GlobB (Go.Abs.base W)) :
    Calls C.prog f args W fun e W' => ∃ v, e = .returned v ∧ s.post enc C.prog fn apart fresh handsOn again W args v W' := by
  have hW' := hW
  obtain ⟨p, q, hA, hV, rfl, hz, hn⟩ := hW
  have hV0 := hV
  rw [hvars] at hV
  obtain ⟨rfl, rfl⟩ : gs = [] ∧ q = [] := by
    cases gs with
    | nil => exact ⟨rfl, hV⟩
    | cons => exact hV.elim
  simp only [List.append_nil] at hW' hz hn
  obtain ⟨xs, hx, har, hbk⟩ := trodAll_args (Z := fun b => b.2 < W.heap.size) hT (fun b h => h) fn.params.toList args.toList ds p hpar (fun j t v h h' => hval j t v (by simpa using h) (by simpa using h')) hA
  refine ((spec xs hx (fun ⟨U, UA, hB, hle⟩ => Nat.le_trans (hbk U UA hB) (by simpa using hle))).2 W _ args hG (fun b h => h) har).mono ?_
  rintro e W' ⟨v, r, rfl, rfl, _, hrep⟩
  obtain ⟨κ, hi⟩ := hrep 0
  have hkept : Kept W W' := hi.kept
  have hv : v = .bool true := by
    have := hi.tmps 0
    simp only [if_pos, V.reg] at this
    have h2 : PRep W' (Zof (Go.Abs.base W) _ κ (tabOf 0 []) W') (.bool true) v := this.2
    cases h2; rfl
  subst hv
  refine ⟨_, rfl, ?_⟩
  have hsame : ∀ p' ∈ p, W.sameAt W' p' := by
    intro p' hp'
    have hlt := hA.lt p' hp'
    cases p' with
    | cell b off => exact World.cell?_of_block (hkept.block b hlt)
    | map b => exact hkept.block b hlt
  have again' : ∀ sp : Nat → Bool, (∀ p' ∈ p, sp p'.block = true) → DataW.TrodAll enc C.prog W' 0 sp true fn.params.toList args.toList ds p := by
    intro sp hsp
    exact (trodAll_carry hA hsame).respare kids full (fun t ht => hTl t (hpar t ht)) hsp
  have hlen : ds.length = fn.params.size := by
    have := trodAll_len hA
    simpa using this
  have hsf := hs (ds ++ []) (by simpa using hlen)
  have h1 : fn.resultTypes.size = 1 := by rw [← Array.length_toList, hres]; rfl
  have hold : ∀ p' ∈ p, (fun b => decide (b < W.heap.size)) p'.block = true := fun p' hp' => by simpa using hA.lt p' hp'
  have hrt : ∀ (b : Nat) (sp : Nat → Bool) (hd : Bool), DataW.TrodAll enc C.prog W' b sp hd fn.resultTypes.toList ((Value.bool true).resultList fn.resultTypes.size) (s.fn H (ds ++ [])).results [] := by
    intro b sp hd
    rw [hsf, hres, h1]
    exact trodAll_mk1 (shut_bool htb true)
  have hvt : ∀ sp : Nat → Bool, DataW.TrodVars enc C.prog W' sp s.vars (s.fn H (ds ++ [])).vars [] := by
    intro sp
    rw [hvars, hsf]; rfl
  have hat : ∀ sp : Nat → Bool, (∀ p' ∈ p, sp p'.block = true) → DataW.TrodAll enc C.prog W' 0 sp true fn.params.toList args.toList (s.fn H (ds ++ [])).args p := by
    intro sp hsp
    rw [hsf]
    simpa using again' sp hsp
  refine ⟨ds, [], p, [], p, [], hW', hrt _ _ _, hat _ hold, hvt _, kept_keptBut hkept _, fun _ => ⟨?_, .lit (.bool true) :: ds, [], p, ?_, fun p' hp' _ => hp'⟩⟩
  · intro j t r hj hv
    rw [h1] at hv
    have hj' : fn.resultTypes.toList[j]? = some t := by simpa using hj
    rw [hres] at hj'
    cases j with
    | zero =>
      simp [Value.resultList] at hj' hv
      subst hj'; subst hv
      exact okWide_bool_mk htb true
    | succ j => simp at hj'
  · refine ⟨p, [], ?_, by rw [hvars]; rfl, by simp, fun b off hp' => ?_, fun ha => by simpa using hn ha⟩
    · rw [hres, h1]
      refine ⟨[], p, shut_bool htb true, ?_, by simp⟩
      have := again' (fun _ => true) (fun _ _ => rfl)
      simpa using this
    · have hlt := hA.lt _ hp'
      have := hz b off hp'
      unfold World.frozen? at this ⊢
      have e := hkept.block b hlt
      simp only [] at this ⊢
      rw [e]; exact this
theorem law_contract {C : Checked} {f : FuncId} {fn : Func} {s : ChangeSpec} {apart fresh handsOn again : Bool} {tb : TypeId}
    (hT : plainT C.prog T = true) (hTl : ∀ t ∈ T, t < C.prog.types.size) (hpar : ∀ t ∈ fn.params.toList, t ∈ T) (kids : Kids C.prog (· < C.prog.types.size))
    (full : ∀ t e, t < C.prog.types.size → C.prog.underlying t = some (.slice e) → 0 < C.prog.cellsOf e)
    (hvars : s.vars = []) (hs : ∀ ds : List (DataW H), ds.length = fn.params.size → s.fn H ds = { results := [.lit (.bool true)], args := ds })
    (hres : fn.resultTypes.toList = [tb]) (htb : C.prog.underlying tb = some .bool)
    (spec : ∀ xs, ArgsOf C.prog fn.params.toList xs → Spec C.prog f xs (fun r => r = .bool true))
    (W : World) (base : Nat) (args : Array Value) (ds gs : List (DataW H)) (before : List MemPlace)
    (hval : ∀ (j : Nat) t v, fn.params[j]? = some t → args[j]? = some v → Value.okWide C.prog W .any base t v)
    (hW : DataW.Whole enc C.prog fn.params.toList s.vars apart W args.toList ds gs before) (hG : GlobB (Go.Abs.base W)) :
    Calls C.prog f args W fun e W' => ∃ v, e = .returned v ∧ s.post enc C.prog fn apart fresh handsOn again W args v W' :=
  law_contractU (N := 0) hT hTl hpar kids full hvars hs hres htb W base args ds gs before (fun xs hx _ => spec xs hx) hval hW hG
end
end Go.Abs


set_option maxRecDepth 100000
namespace Go.Abs
open Go.Proofs
theorem uu {a b : AQ} (h : a = b) (P ts os Q) : awl P a Q ts os = awl P b Q ts os := h ▸ rfl
def f11r1 : List AI := [⟨none, (.load 94 4 true (.t 2))⟩, ⟨none, (.call (some 95) 29 [(.t 94)])⟩, ⟨none, (.extr 96 (.t 95) 0)⟩, ⟨none, (.extr 97 (.t 95) 1)⟩, ⟨none, (.store 4 (.t 4) (.t 96))⟩, ⟨none, (.mov 5 (.t 97))⟩]
def f11b2 : AQ := (.seq (.region f11r1) .ret)
def f11r3o0 : AI := ⟨none, (.load 84 4 true (.t 2))⟩
def f11r3o1 : AI := ⟨none, (.faddr 85 2 (.t 6))⟩
def f11r3o2 : AI := ⟨none, (.load 86 1 false (.t 85))⟩
def f11r3o3 : AI := ⟨none, (.bin 87 .sub (.v (.k (.c (.int .i64 1)))) (.t 86))⟩
def f11r3o4 : AI := ⟨none, (.mov 88 (.t 8))⟩
def f11r3o5 : AI := ⟨none, (.lenS 89 (.t 88))⟩
def f11r3o6 : AI := ⟨none, (.call (some 90) 30 [(.t 89)])⟩
def f11r3o7 : AI := ⟨none, (.call (some 91) 28 [(.t 84), (.t 87), (.t 90)])⟩
def f11r3o8 : AI := ⟨none, (.mov 83 (.t 91))⟩
def f11r3o9 : AI := ⟨none, (.extr 92 (.t 83) 0)⟩
def f11r3o10 : AI := ⟨none, (.extr 93 (.t 83) 1)⟩
def f11r3o11 : AI := ⟨none, (.store 4 (.t 2) (.t 92))⟩
def f11r3 : List AI := [f11r3o0, f11r3o1, f11r3o2, f11r3o3, f11r3o4, f11r3o5, f11r3o6, f11r3o7, f11r3o8, f11r3o9, f11r3o10, f11r3o11]
theorem utf11r3 : treeOf f11r3 [[], [], [1], [2], [], [4], [5], [0, 3, 6, 6], [7], [8], [8], [9, 7, 0, 1, 2, 3, 4, 5, 6, 7, 8, 9]] = (.one f11r3o0 (.one f11r3o1 (.one f11r3o2 (.one f11r3o3 (.one f11r3o4 (.one f11r3o5 (.one f11r3o6 (.one f11r3o7 (.one f11r3o8 (.one f11r3o9 (.alt (.one f11r3o10 (.one f11r3o11 .done)) (.alt (.one f11r3o11 (.one f11r3o10 .done)) .top)))))))))))) := by kernel_rfl
def f11b4 : AQ := (.seq (.tree f11r3 [[], [], [1], [2], [], [4], [5], [0, 3, 6, 6], [7], [8], [8], [9, 7, 0, 1, 2, 3, 4, 5, 6, 7, 8, 9]]) (.keep [2, 4] [2, 4, 71, 76, 91, 95, 72000, 72001, 72002, 77000, 77001, 77002, 92000, 92001, 92002, 96000, 96001, 96002] f11b2))
def f11r5 : List AI := [⟨none, (.load 81 4 true (.t 2))⟩, ⟨none, (.mov 82 (.t 7))⟩, ⟨none, (.store 4 (.t 4) (.t 81))⟩, ⟨none, (.mov 5 (.t 82))⟩]
def f11b6 : AQ := (.seq (.region f11r5) .ret)
def f11b7 : AQ := (.cond (.t 80) f11b6 .skip)
def f11r8 : List AI := [⟨none, (.mov 79 (.t 7))⟩, ⟨none, (.bin 80 .neq (.t 79) (.v (.k (.c (.int .i64 0)))))⟩]
def f11b9 : AQ := (.seq (.region f11r8) f11b7)
def f11b10 : AQ := (.seq f11b9 f11b4)
def f11r11 : List AI := [⟨none, (.load 75 4 true (.t 2))⟩, ⟨none, (.call (some 76) 29 [(.t 75)])⟩, ⟨none, (.mov 74 (.t 76))⟩, ⟨none, (.extr 77 (.t 74) 0)⟩, ⟨none, (.extr 78 (.t 74) 1)⟩, ⟨none, (.store 4 (.t 2) (.t 77))⟩, ⟨none, (.mov 7 (.t 78))⟩]
def f11b12 : AQ := (.seq (.region f11r11) f11b10)
def f11r13 : List AI := [⟨none, (.mov 55 (.t 9))⟩, ⟨none, (.bin 56 .add (.t 55) (.v (.k (.c (.int .i64 1)))))⟩, ⟨none, (.mov 9 (.t 56))⟩]
def f11r14o0 : AI := ⟨none, (.load 58 4 true (.t 2))⟩
def f11r14o1 : AI := ⟨none, (.mov 59 (.t 9))⟩
def f11r14o2 : AI := ⟨none, (.bin 60 .add (.v (.k (.c (.int .i64 2)))) (.t 59))⟩
def f11r14o3 : AI := ⟨none, (.mov 61 (.t 8))⟩
def f11r14o4 : AI := ⟨none, (.mov 62 (.t 9))⟩
def f11r14o5 : AI := ⟨none, (.bin 63 .mul (.t 62) (.v (.k (.c (.int .i64 16)))))⟩
def f11r14o6 : AI := ⟨none, (.mov 64 (.t 9))⟩
def f11r14o7 : AI := ⟨none, (.bin 65 .add (.t 64) (.v (.k (.c (.int .i64 1)))))⟩
def f11r14o8 : AI := ⟨none, (.bin 66 .mul (.t 65) (.v (.k (.c (.int .i64 16)))))⟩
def f11r14o9 : AI := ⟨none, (.mov 67 (.t 8))⟩
def f11r14o10 : AI := ⟨none, (.lenS 68 (.t 67))⟩
def f11r14o11 : AI := ⟨none, (.minmax 69 false (.t 66) [(.t 68)])⟩
def f11r14o12 : AI := ⟨none, (.slstr 70 (.t 61) (some (.t 63)) (some (.t 69)))⟩
def f11r14o13 : AI := ⟨none, (.call (some 71) 28 [(.t 58), (.t 60), (.t 70)])⟩
def f11r14o14 : AI := ⟨none, (.mov 57 (.t 71))⟩
def f11r14o15 : AI := ⟨none, (.extr 72 (.t 57) 0)⟩
def f11r14o16 : AI := ⟨none, (.extr 73 (.t 57) 1)⟩
def f11r14o17 : AI := ⟨none, (.store 4 (.t 2) (.t 72))⟩
def f11r14 : List AI := [f11r14o0, f11r14o1, f11r14o2, f11r14o3, f11r14o4, f11r14o5, f11r14o6, f11r14o7, f11r14o8, f11r14o9, f11r14o10, f11r14o11, f11r14o12, f11r14o13, f11r14o14, f11r14o15, f11r14o16, f11r14o17]
theorem utf11r14 : treeOf f11r14 [[], [], [1], [], [], [4], [], [6], [7], [], [9], [8, 10], [3, 5, 11], [0, 2, 12], [13], [14], [14], [15, 13, 0, 1, 2, 3, 4, 5, 6, 7, 8, 9, 10, 11, 12, 13, 14, 15]] = (.one f11r14o0 (.one f11r14o1 (.one f11r14o2 (.one f11r14o3 (.one f11r14o4 (.one f11r14o5 (.one f11r14o6 (.one f11r14o7 (.one f11r14o8 (.one f11r14o9 (.one f11r14o10 (.one f11r14o11 (.one f11r14o12 (.one f11r14o13 (.one f11r14o14 (.one f11r14o15 (.alt (.one f11r14o16 (.one f11r14o17 .done)) (.alt (.one f11r14o17 (.one f11r14o16 .done)) .top)))))))))))))))))) := by kernel_rfl
def f11b15 : AQ := (.block 2 (.tree f11r14 [[], [], [1], [], [], [4], [], [6], [7], [], [9], [8, 10], [3, 5, 11], [0, 2, 12], [13], [14], [14], [15, 13, 0, 1, 2, 3, 4, 5, 6, 7, 8, 9, 10, 11, 12, 13, 14, 15]]))
def f11b16 : AQ := (.seq f11b15 (.region f11r13))
def f11b17 : AQ := (.cond (.t 54) .skip (.exit 1))
def f11r18 : List AI := [⟨none, (.mov 50 (.t 9))⟩, ⟨none, (.bin 51 .mul (.t 50) (.v (.k (.c (.int .i64 16)))))⟩, ⟨none, (.mov 52 (.t 8))⟩, ⟨none, (.lenS 53 (.t 52))⟩, ⟨none, (.bin 54 .lss (.t 51) (.t 53))⟩]
def f11b19 : AQ := (.seq (.region f11r18) f11b17)
def f11b20 : AQ := (.seq f11b19 f11b16)
def f11l21 : AQ := .loop [2, 4, 6, 8, 9] [2, 4, 6, 12, 71, 76, 91, 95, 13000, 13001, 13002, 72000, 72001, 72002, 77000, 77001, 77002, 92000, 92001, 92002, 96000, 96001, 96002] f11b20
theorem uf11l21 (P ts os Q) : awl P f11l21 Q ts os = awl P (.loop [2, 4, 6, 8, 9] [2, 4, 6, 12, 71, 76, 91, 95, 13000, 13001, 13002, 72000, 72001, 72002, 77000, 77001, 77002, 92000, 92001, 92002, 96000, 96001, 96002] f11b20) Q ts os := id rfl
def f11b22 : AQ := (.block 1 f11l21)
def f11r23 : List AI := [⟨none, (.faddr 46 1 (.t 6))⟩, ⟨none, (.load 47 1 false (.t 46))⟩, ⟨none, (.lenS 48 (.t 47))⟩, ⟨none, (.bin 49 .quo (.t 48) (.v (.k (.c (.int .i64 16)))))⟩, ⟨none, (.mov 9 (.t 49))⟩]
def f11b24 : AQ := (.seq (.region f11r23) f11b22)
def f11b25 : AQ := (.seq f11b24 f11b12)
def f11r26 : List AI := [⟨none, (.build 23 [(.list 0 (some true) []), (.list 0 (some true) []), (.int .i64 0), (.bool false)] [])⟩, ⟨none, (.mov 24 (.t 7))⟩, ⟨none, (.store 4 (.t 4) (.t 23))⟩, ⟨none, (.mov 5 (.t 24))⟩]
def f11b27 : AQ := (.seq (.region f11r26) .ret)
def f11r28 : List AI := [⟨none, (.build 29 [(.list 0 (some true) []), (.list 0 (some true) []), (.int .i64 0), (.bool false)] [])⟩, ⟨none, (.store 4 (.t 4) (.t 29))⟩, ⟨none, (.mov 5 (.v (.k (.c (.int .i64 1)))))⟩]
def f11b29 : AQ := (.seq (.region f11r28) .ret)
def f11r30 : List AI := [⟨none, (.build 45 [(.list 0 (some true) []), (.list 0 (some true) []), (.int .i64 0), (.bool false)] [])⟩, ⟨none, (.store 4 (.t 4) (.t 45))⟩, ⟨none, (.mov 5 (.v (.k (.c (.int .i64 6)))))⟩]
def f11b31 : AQ := (.seq (.region f11r30) .ret)
def f11b32 : AQ := (.cond (.t 30) f11b31 .skip)
def f11r33 : List AI := [⟨none, (.faddr 31 0 (.t 6))⟩, ⟨none, (.load 32 1 false (.t 31))⟩, ⟨none, (.len 33 (.t 32))⟩, ⟨none, (.bin 34 .eql (.t 33) (.v (.k (.c (.int .i64 500)))))⟩, ⟨none, (.mov 35 (.t 34))⟩, ⟨(some (35, false)), (.mov 36 (.t 8))⟩, ⟨(some (35, false)), (.lenS 37 (.t 36))⟩, ⟨(some (35, false)), (.faddr 38 0 (.t 2))⟩, ⟨(some (35, false)), (.load 39 1 false (.t 38))⟩, ⟨(some (35, false)), (.len 40 (.t 39))⟩, ⟨(some (35, false)), (.bin 41 .sub (.t 40) (.v (.k (.c (.int .i64 2)))))⟩, ⟨(some (35, false)), (.bin 42 .mul (.t 41) (.v (.k (.c (.int .i64 16)))))⟩, ⟨(some (35, false)), (.bin 43 .gtr (.t 37) (.t 42))⟩, ⟨none, (.pick 44 (.t 35) (.v (.k (.c (.bool true)))) (.t 43))⟩, ⟨none, (.mov 30 (.t 44))⟩]
def f11b34 : AQ := (.seq (.region f11r33) f11b32)
def f11b35 : AQ := (.cond (.t 25) f11b29 f11b34)
def f11r36 : List AI := [⟨none, (.mov 26 (.t 1))⟩, ⟨none, (.lenS 27 (.t 26))⟩, ⟨none, (.bin 28 .gtr (.t 27) (.v (.k (.c (.int .i64 2000)))))⟩, ⟨none, (.mov 25 (.t 28))⟩]
def f11b37 : AQ := (.seq (.region f11r36) f11b35)
def f11b38 : AQ := (.cond (.t 20) f11b27 f11b37)
def f11r39 : List AI := [⟨none, (.mov 21 (.t 7))⟩, ⟨none, (.bin 22 .neq (.t 21) (.v (.k (.c (.int .i64 0)))))⟩, ⟨none, (.mov 20 (.t 22))⟩]
def f11b40 : AQ := (.seq (.region f11r39) f11b38)
def f11b41 : AQ := (.block 0 f11b40)
def f11b42 : AQ := (.seq f11b41 f11b25)
def f11r43 : List AI := [⟨none, (.faddr 15 1 (.t 6))⟩, ⟨none, (.load 16 1 false (.t 15))⟩, ⟨none, (.mov 17 (.t 1))⟩, ⟨none, (.call (some 18) 12 [(.t 17)])⟩, ⟨none, (.bin 19 .add (.t 16) (.t 18))⟩, ⟨none, (.mov 8 (.t 19))⟩]
def f11b44 : AQ := (.seq (.draw f11r43 [[], [0], [], [2], [1, 3], [4, 3, 0, 1, 2, 3, 4]]) f11b42)
def f11r45 : List AI := [⟨none, (.load 11 4 true (.t 2))⟩, ⟨none, (.call (some 12) 27 [(.t 11)])⟩, ⟨none, (.mov 10 (.t 12))⟩, ⟨none, (.extr 13 (.t 10) 0)⟩, ⟨none, (.extr 14 (.t 10) 1)⟩, ⟨none, (.alloc 6 53 [(.list 0 (some true) []), (.str []), (.int .i64 0)])⟩, ⟨none, (.store 3 (.t 6) (.t 13))⟩, ⟨none, (.mov 7 (.t 14))⟩]
def f11b46 : AQ := (.seq (.region f11r45) f11b44)
def f11r47 : List AI := [⟨none, (.box 2 27 (.t 0))⟩, ⟨none, (.alloc 4 27 [(.list 0 (some true) []), (.list 0 (some true) []), (.int .i64 0), (.bool false)])⟩, ⟨none, (.mov 5 (.v (.k (.c (.int .i64 0)))))⟩]
def f11b48 : AQ := (.seq (.region f11r47) f11b46)
def f11 : AQ := f11b48
theorem hf11 : cFunc Tryd.prog 11 = some ⟨98, f11.erase, [(RX.cell 4 4 true), (RX.t 5)]⟩ := by kernel_rfl
theorem okf11 : f11.ok = true := by kernel_rfl
def f12r1 : List AI := [⟨none, (.mov 3 (.t 0))⟩, ⟨none, (.lenS 4 (.t 3))⟩, ⟨none, (.call (some 5) 31 [(.t 4)])⟩, ⟨none, (.mov 6 (.t 0))⟩, ⟨none, (.bin 7 .add (.t 5) (.t 6))⟩, ⟨none, (.mov 2 (.t 7))⟩]
def f12b2 : AQ := (.seq (.region f12r1) .ret)
def f12r3 : List AI := [⟨none, (.mov 2 (.v (.k (.c (.str [])))))⟩]
def f12b4 : AQ := (.seq (.region f12r3) f12b2)
def f12 : AQ := f12b4
theorem hf12 : cFunc Tryd.prog 12 = some ⟨8, f12.erase, [(RX.t 2)]⟩ := by kernel_rfl
theorem okf12 : f12.ok = true := by kernel_rfl
def f13r1 : List AI := [⟨none, (.mov 19 (.t 3))⟩, ⟨none, (.mov 2 (.t 19))⟩]
def f13b2 : AQ := (.seq (.region f13r1) .ret)
def f13r3 : List AI := [⟨none, (.mov 10 (.t 4))⟩, ⟨none, (.bin 11 .add (.t 10) (.v (.k (.c (.int .i64 1)))))⟩, ⟨none, (.mov 4 (.t 11))⟩]
def f13r4 : List AI := [⟨none, (.mov 12 (.t 3))⟩, ⟨none, (.faddr 13 0 (.t 1))⟩, ⟨none, (.load 14 1 false (.t 13))⟩, ⟨none, (.mov 15 (.t 4))⟩, ⟨none, (.iaddr 16 1 (.t 14) (.t 15))⟩, ⟨none, (.load 17 1 false (.t 16))⟩, ⟨none, (.bin 18 .add (.t 12) (.t 17))⟩, ⟨none, (.mov 3 (.t 18))⟩]
def f13b5 : AQ := (.block 1 (.region f13r4))
def f13b6 : AQ := (.seq f13b5 (.region f13r3))
def f13b7 : AQ := (.cond (.t 9) .skip (.exit 0))
def f13r8 : List AI := [⟨none, (.mov 5 (.t 4))⟩, ⟨none, (.faddr 6 0 (.t 1))⟩, ⟨none, (.load 7 1 false (.t 6))⟩, ⟨none, (.len 8 (.t 7))⟩, ⟨none, (.bin 9 .lss (.t 5) (.t 8))⟩]
def f13b9 : AQ := (.seq (.region f13r8) f13b7)
def f13b10 : AQ := (.seq f13b9 f13b6)
def f13l11 : AQ := .loop [1, 3, 4] [1] f13b10
theorem uf13l11 (P ts os Q) : awl P f13l11 Q ts os = awl P (.loop [1, 3, 4] [1] f13b10) Q ts os := id rfl
def f13b12 : AQ := (.block 0 f13l11)
def f13r13 : List AI := [⟨none, (.mov 4 (.v (.k (.c (.int .i64 2)))))⟩]
def f13b14 : AQ := (.seq (.region f13r13) f13b12)
def f13b15 : AQ := (.seq f13b14 f13b2)
def f13r16 : List AI := [⟨none, (.mov 3 (.v (.k (.c (.str [])))))⟩]
def f13b17 : AQ := (.seq (.region f13r16) f13b15)
def f13r18 : List AI := [⟨none, (.box 1 27 (.t 0))⟩, ⟨none, (.mov 2 (.v (.k (.c (.str [])))))⟩]
def f13b19 : AQ := (.seq (.region f13r18) f13b17)
def f13 : AQ := f13b19
theorem hf13 : cFunc Tryd.prog 13 = some ⟨20, f13.erase, [(RX.t 2)]⟩ := by kernel_rfl
theorem okf13 : f13.ok = true := by kernel_rfl
def f14r1 : List AI := [⟨none, (.mov 21 (.t 3))⟩, ⟨none, (.mov 22 (.t 3))⟩, ⟨none, (.bin 23 .add (.t 21) (.t 22))⟩, ⟨none, (.mov 2 (.t 23))⟩]
def f14b2 : AQ := (.seq (.region f14r1) .ret)
def f14r3 : List AI := [⟨none, (.mov 8 (.t 4))⟩, ⟨none, (.bin 9 .add (.t 8) (.v (.k (.c (.int .i64 1)))))⟩, ⟨none, (.mov 4 (.t 9))⟩]
def f14r4 : List AI := [⟨none, (.mov 19 (.t 0))⟩, ⟨none, (.bin 20 .quo (.t 19) (.v (.k (.c (.int .i64 10)))))⟩, ⟨none, (.mov 0 (.t 20))⟩]
def f14r5 : List AI := [⟨none, (.mov 10 (.t 5))⟩, ⟨none, (.mov 11 (.t 0))⟩, ⟨none, (.bin 12 .rem (.t 11) (.v (.k (.c (.int .i64 10)))))⟩, ⟨none, (.mov 13 (.t 0))⟩, ⟨none, (.bin 14 .rem (.t 13) (.v (.k (.c (.int .i64 10)))))⟩, ⟨none, (.bin 15 .add (.t 14) (.v (.k (.c (.int .i64 1)))))⟩, ⟨none, (.slstr 16 (.t 10) (some (.t 12)) (some (.t 15)))⟩, ⟨none, (.mov 17 (.t 3))⟩, ⟨none, (.bin 18 .add (.t 16) (.t 17))⟩, ⟨none, (.mov 3 (.t 18))⟩]
def f14b6 : AQ := (.seq (.region f14r5) (.region f14r4))
def f14r7 : List AI := [⟨none, (.mov 5 (.v (.k (.c (.str [48, 49, 50, 51, 52, 53, 54, 55, 56, 57])))))⟩]
def f14b8 : AQ := (.seq (.region f14r7) f14b6)
def f14b9 : AQ := (.block 1 f14b8)
def f14b10 : AQ := (.seq f14b9 (.region f14r3))
def f14b11 : AQ := (.cond (.t 7) .skip (.exit 0))
def f14r12 : List AI := [⟨none, (.mov 6 (.t 4))⟩, ⟨none, (.bin 7 .lss (.t 6) (.v (.k (.c (.int .i64 8)))))⟩]
def f14b13 : AQ := (.seq (.region f14r12) f14b11)
def f14b14 : AQ := (.seq f14b13 f14b10)
def f14l15 : AQ := .loop [0, 3, 4] [] f14b14
theorem uf14l15 (P ts os Q) : awl P f14l15 Q ts os = awl P (.loop [0, 3, 4] [] f14b14) Q ts os := id rfl
def f14b16 : AQ := (.block 0 f14l15)
def f14r17 : List AI := [⟨none, (.mov 4 (.v (.k (.c (.int .i64 0)))))⟩]
def f14b18 : AQ := (.seq (.region f14r17) f14b16)
def f14b19 : AQ := (.seq f14b18 f14b2)
def f14r20 : List AI := [⟨none, (.mov 3 (.v (.k (.c (.str [])))))⟩]
def f14b21 : AQ := (.seq (.region f14r20) f14b19)
def f14r22 : List AI := [⟨none, (.mov 2 (.v (.k (.c (.str [])))))⟩]
def f14b23 : AQ := (.seq (.region f14r22) f14b21)
def f14 : AQ := f14b23
theorem hf14 : cFunc Tryd.prog 14 = some ⟨24, f14.erase, [(RX.t 2)]⟩ := by kernel_rfl
theorem okf14 : f14.ok = true := by kernel_rfl
def f15r1 : List AI := [⟨none, (.mov 40 (.t 3))⟩, ⟨none, (.mov 2 (.t 40))⟩]
def f15b2 : AQ := (.seq (.region f15r1) .ret)
def f15r3 : List AI := [⟨none, (.mov 10 (.t 4))⟩, ⟨none, (.bin 11 .add (.t 10) (.v (.k (.c (.int .i64 1)))))⟩, ⟨none, (.mov 4 (.t 11))⟩]
def f15r4 : List AI := [⟨none, (.mov 32 (.t 3))⟩, ⟨none, (.bin 33 .mul (.v (.k (.c (.int .i64 10)))) (.t 32))⟩, ⟨none, (.mov 34 (.t 0))⟩, ⟨none, (.mov 35 (.t 4))⟩, ⟨none, (.sidx 36 (.t 34) (.t 35))⟩, ⟨none, (.conv 37 .i64 (.t 36))⟩, ⟨none, (.bin 38 .add (.t 33) (.t 37))⟩, ⟨none, (.bin 39 .sub (.t 38) (.v (.k (.c (.int .i64 48)))))⟩, ⟨none, (.mov 3 (.t 39))⟩]
def f15r5 : List AI := [⟨none, (.mov 2 (.v (.k (.c (.int .i64 (-1))))))⟩]
def f15b6 : AQ := (.seq (.region f15r5) .ret)
def f15b7 : AQ := (.cond (.t 31) f15b6 .skip)
def f15r8 : List AI := [⟨none, (.mov 12 (.t 0))⟩, ⟨none, (.mov 13 (.t 4))⟩, ⟨none, (.sidx 14 (.t 12) (.t 13))⟩, ⟨none, (.bin 15 .lss (.t 14) (.v (.k (.c (.int .u8 48)))))⟩, ⟨none, (.mov 16 (.t 15))⟩, ⟨(some (16, false)), (.mov 17 (.t 0))⟩, ⟨(some (16, false)), (.mov 18 (.t 4))⟩, ⟨(some (16, false)), (.sidx 19 (.t 17) (.t 18))⟩, ⟨(some (16, false)), (.bin 20 .gtr (.t 19) (.v (.k (.c (.int .u8 57)))))⟩, ⟨none, (.pick 21 (.t 16) (.v (.k (.c (.bool true)))) (.t 20))⟩, ⟨none, (.mov 22 (.t 21))⟩, ⟨(some (22, false)), (.mov 23 (.t 0))⟩, ⟨(some (22, false)), (.mov 24 (.t 4))⟩, ⟨(some (22, false)), (.sidx 25 (.t 23) (.t 24))⟩, ⟨(some (22, false)), (.mov 26 (.t 0))⟩, ⟨(some (22, false)), (.mov 27 (.t 4))⟩, ⟨(some (22, false)), (.bin 28 .add (.t 27) (.v (.k (.c (.int .i64 8)))))⟩, ⟨(some (22, false)), (.sidx 29 (.t 26) (.t 28))⟩, ⟨(some (22, false)), (.bin 30 .neq (.t 25) (.t 29))⟩, ⟨none, (.pick 31 (.t 22) (.v (.k (.c (.bool true)))) (.t 30))⟩]
def f15b9 : AQ := (.seq (.draw f15r8 [[], [], [0, 1], [2], [3], [4], [4], [5, 6, 4], [7, 4], [4, 8], [9, 4], [10], [10], [11, 12, 10], [10], [10], [15, 10], [14, 16, 10], [13, 17, 10], [10, 18]]) f15b7)
def f15b10 : AQ := (.seq f15b9 (.region f15r4))
def f15b11 : AQ := (.block 1 f15b10)
def f15b12 : AQ := (.seq f15b11 (.region f15r3))
def f15b13 : AQ := (.cond (.t 9) .skip (.exit 0))
def f15r14 : List AI := [⟨none, (.mov 8 (.t 4))⟩, ⟨none, (.bin 9 .lss (.t 8) (.v (.k (.c (.int .i64 8)))))⟩]
def f15b15 : AQ := (.seq (.region f15r14) f15b13)
def f15b16 : AQ := (.seq f15b15 f15b12)
def f15l17 : AQ := .loop [0, 3, 4] [] f15b16
theorem uf15l17 (P ts os Q) : awl P f15l17 Q ts os = awl P (.loop [0, 3, 4] [] f15b16) Q ts os := id rfl
def f15b18 : AQ := (.block 0 f15l17)
def f15r19 : List AI := [⟨none, (.mov 4 (.v (.k (.c (.int .i64 0)))))⟩]
def f15b20 : AQ := (.seq (.region f15r19) f15b18)
def f15b21 : AQ := (.seq f15b20 f15b2)
def f15r22 : List AI := [⟨none, (.mov 3 (.v (.k (.c (.int .i64 0)))))⟩]
def f15b23 : AQ := (.seq (.region f15r22) f15b21)
def f15r24 : List AI := [⟨none, (.mov 2 (.v (.k (.c (.int .i64 (-1))))))⟩]
def f15b25 : AQ := (.seq (.region f15r24) .ret)
def f15b26 : AQ := (.cond (.t 7) f15b25 .skip)
def f15r27 : List AI := [⟨none, (.mov 5 (.t 0))⟩, ⟨none, (.lenS 6 (.t 5))⟩, ⟨none, (.bin 7 .neq (.t 6) (.v (.k (.c (.int .i64 16)))))⟩]
def f15b28 : AQ := (.seq (.region f15r27) f15b26)
def f15b29 : AQ := (.seq f15b28 f15b23)
def f15r30 : List AI := [⟨none, (.mov 2 (.v (.k (.c (.int .i64 0)))))⟩]
def f15b31 : AQ := (.seq (.region f15r30) f15b29)
def f15 : AQ := f15b31
theorem hf15 : cFunc Tryd.prog 15 = some ⟨41, f15.erase, [(RX.t 2)]⟩ := by kernel_rfl
theorem okf15 : f15.ok = true := by kernel_rfl
def f16r1 : List AI := [⟨none, (.load 25 4 true (.t 4))⟩, ⟨none, (.store 4 (.t 2) (.t 25))⟩, ⟨none, (.mov 3 (.v (.k (.c (.int .i64 0)))))⟩]
def f16b2 : AQ := (.seq (.region f16r1) .ret)
def f16r3 : List AI := [⟨none, (.mov 17 (.t 5))⟩, ⟨none, (.bin 18 .add (.t 17) (.v (.k (.c (.int .i64 1)))))⟩, ⟨none, (.mov 5 (.t 18))⟩]
def f16r4 : List AI := [⟨none, (.faddr 19 0 (.t 4))⟩, ⟨none, (.load 20 1 false (.t 19))⟩, ⟨none, (.call (some 21) 32 [(.v (.k (.c (.int .i64 16))))])⟩, ⟨none, (.bslice 22 9 1 [(.str [])] 1 [(0, (.t 21))])⟩, ⟨none, (.append 23 9 1 16 (.t 20) (.t 22))⟩, ⟨none, (.faddr 24 0 (.t 4))⟩, ⟨none, (.store 1 (.t 24) (.t 23))⟩]
def f16b5 : AQ := (.block 1 (.draw f16r4 [[], [0], [], [2], [1, 3, 2], [0, 1, 2, 3, 4], [5, 4, 4, 0, 1, 2, 3, 4]]))
def f16b6 : AQ := (.seq f16b5 (.region f16r3))
def f16b7 : AQ := (.cond (.t 16) .skip (.exit 0))
def f16r8 : List AI := [⟨none, (.mov 14 (.t 5))⟩, ⟨none, (.mov 15 (.t 0))⟩, ⟨none, (.bin 16 .lss (.t 14) (.t 15))⟩]
def f16b9 : AQ := (.seq (.region f16r8) f16b7)
def f16b10 : AQ := (.seq f16b9 f16b6)
def f16l11 : AQ := .loop [0, 2, 4, 5] [2, 4, 23] f16b10
theorem uf16l11 (P ts os Q) : awl P f16l11 Q ts os = awl P (.loop [0, 2, 4, 5] [2, 4, 23] f16b10) Q ts os := id rfl
def f16b12 : AQ := (.block 0 f16l11)
def f16r13 : List AI := [⟨none, (.mov 5 (.v (.k (.c (.int .i64 0)))))⟩]
def f16b14 : AQ := (.seq (.region f16r13) f16b12)
def f16b15 : AQ := (.seq f16b14 f16b2)
def f16r16 : List AI := [(AI.mk none (.build 13 [(.list 0 (some true) []), (.list 0 (some true) []), (.int .i64 0), (.bool false)] [(2, (1, (.v (.k (.c (.int .i64 (-1)))))))])), ⟨none, (.alloc 4 27 [(.list 0 (some true) []), (.list 0 (some true) []), (.int .i64 0), (.bool false)])⟩, ⟨none, (.store 4 (.t 4) (.t 13))⟩]
def f16b17 : AQ := (.seq (.region f16r16) f16b15)
def f16r18 : List AI := [⟨none, (.build 12 [(.list 0 (some true) []), (.list 0 (some true) []), (.int .i64 0), (.bool false)] [])⟩, ⟨none, (.store 4 (.t 2) (.t 12))⟩, ⟨none, (.mov 3 (.v (.k (.c (.int .i64 1)))))⟩]
def f16b19 : AQ := (.seq (.region f16r18) .ret)
def f16b20 : AQ := (.cond (.t 11) f16b19 .skip)
def f16r21 : List AI := [⟨none, (.mov 6 (.t 0))⟩, ⟨none, (.bin 7 .lss (.t 6) (.v (.k (.c (.int .i64 1)))))⟩, ⟨none, (.mov 8 (.t 7))⟩, ⟨(some (8, false)), (.mov 9 (.t 0))⟩, ⟨(some (8, false)), (.bin 10 .gtr (.t 9) (.v (.k (.c (.int .i64 512)))))⟩, ⟨none, (.pick 11 (.t 8) (.v (.k (.c (.bool true)))) (.t 10))⟩]
def f16b22 : AQ := (.seq (.region f16r21) f16b20)
def f16b23 : AQ := (.seq f16b22 f16b17)
def f16r24 : List AI := [⟨none, (.alloc 2 27 [(.list 0 (some true) []), (.list 0 (some true) []), (.int .i64 0), (.bool false)])⟩, ⟨none, (.mov 3 (.v (.k (.c (.int .i64 0)))))⟩]
def f16b25 : AQ := (.seq (.region f16r24) f16b23)
def f16 : AQ := f16b25
theorem hf16 : cFunc Tryd.prog 16 = some ⟨26, f16.erase, [(RX.cell 2 4 true), (RX.t 3)]⟩ := by kernel_rfl
theorem okf16 : f16.ok = true := by kernel_rfl
def f17r1 : List AI := [⟨none, (.load 28 4 true (.t 1))⟩, ⟨none, (.call (some 29) 29 [(.t 28)])⟩, ⟨none, (.extr 30 (.t 29) 0)⟩, ⟨none, (.extr 31 (.t 29) 1)⟩, ⟨none, (.store 4 (.t 2) (.t 30))⟩, ⟨none, (.mov 3 (.t 31))⟩]
def f17b2 : AQ := (.seq (.region f17r1) .ret)
def f17r3 : List AI := [⟨none, (.bin 27 .add (.t 17) (.v (.k (.c (.int .i64 1)))))⟩, ⟨none, (.mov 17 (.t 27))⟩]
def f17r4o0 : AI := ⟨none, (.load 21 4 true (.t 1))⟩
def f17r4o1 : AI := ⟨none, (.mov 22 (.t 5))⟩
def f17r4o2 : AI := ⟨none, (.call (some 23) 30 [(.v (.k (.c (.int .i64 0))))])⟩
def f17r4o3 : AI := ⟨none, (.call (some 24) 28 [(.t 21), (.t 22), (.t 23)])⟩
def f17r4o4 : AI := ⟨none, (.mov 20 (.t 24))⟩
def f17r4o5 : AI := ⟨none, (.extr 25 (.t 20) 0)⟩
def f17r4o6 : AI := ⟨none, (.extr 26 (.t 20) 1)⟩
def f17r4o7 : AI := ⟨none, (.store 4 (.t 1) (.t 25))⟩
def f17r4 : List AI := [f17r4o0, f17r4o1, f17r4o2, f17r4o3, f17r4o4, f17r4o5, f17r4o6, f17r4o7]
theorem utf17r4 : treeOf f17r4 [[], [], [], [0, 1, 2, 2], [3], [4], [4], [5, 3, 0, 1, 2, 3, 4, 5]] = (.one f17r4o0 (.one f17r4o1 (.one f17r4o2 (.one f17r4o3 (.one f17r4o4 (.one f17r4o5 (.alt (.one f17r4o6 (.one f17r4o7 .done)) (.alt (.one f17r4o7 (.one f17r4o6 .done)) .top)))))))) := by kernel_rfl
def f17r5 : List AI := [⟨none, (.mov 19 (.t 17))⟩, ⟨none, (.mov 5 (.t 19))⟩]
def f17b6 : AQ := (.seq (.region f17r5) (.tree f17r4 [[], [], [], [0, 1, 2, 2], [3], [4], [4], [5, 3, 0, 1, 2, 3, 4, 5]]))
def f17b7 : AQ := (.block 1 f17b6)
def f17b8 : AQ := (.seq f17b7 (.region f17r3))
def f17b9 : AQ := (.cond (.t 18) .skip (.exit 0))
def f17b10 : AQ := (.seq f17b9 f17b8)
def f17r11 : List AI := [⟨none, (.bin 18 .lss (.t 17) (.v (.k (.c (.int .i64 2)))))⟩]
def f17b12 : AQ := (.seq (.region f17r11) f17b10)
def f17l13 : AQ := .loop [1, 2, 17] [1, 2, 24, 29, 25000, 25001, 25002, 30000, 30001, 30002] f17b12
theorem uf17l13 (P ts os Q) : awl P f17l13 Q ts os = awl P (.loop [1, 2, 17] [1, 2, 24, 29, 25000, 25001, 25002, 30000, 30001, 30002] f17b12) Q ts os := id rfl
def f17b14 : AQ := (.block 0 f17l13)
def f17r15 : List AI := [⟨none, (.mov 17 (.v (.k (.c (.int .i64 0)))))⟩]
def f17b16 : AQ := (.seq (.region f17r15) f17b14)
def f17b17 : AQ := (.seq f17b16 f17b2)
def f17r18 : List AI := [⟨none, (.build 16 [(.list 0 (some true) []), (.list 0 (some true) []), (.int .i64 0), (.bool false)] [])⟩, ⟨none, (.store 4 (.t 2) (.t 16))⟩, ⟨none, (.mov 3 (.v (.k (.c (.int .i64 6)))))⟩]
def f17b19 : AQ := (.seq (.region f17r18) .ret)
def f17b20 : AQ := (.cond (.t 15) f17b19 .skip)
def f17r21 : List AI := [⟨none, (.faddr 12 0 (.t 1))⟩, ⟨none, (.load 13 1 false (.t 12))⟩, ⟨none, (.len 14 (.t 13))⟩, ⟨none, (.bin 15 .leq (.t 14) (.v (.k (.c (.int .i64 2)))))⟩]
def f17b22 : AQ := (.seq (.region f17r21) f17b20)
def f17b23 : AQ := (.seq f17b22 f17b17)
def f17r24 : List AI := [⟨none, (.build 10 [(.list 0 (some true) []), (.list 0 (some true) []), (.int .i64 0), (.bool false)] [])⟩, ⟨none, (.mov 11 (.t 4))⟩, ⟨none, (.store 4 (.t 2) (.t 10))⟩, ⟨none, (.mov 3 (.t 11))⟩]
def f17b25 : AQ := (.seq (.region f17r24) .ret)
def f17b26 : AQ := (.cond (.t 9) f17b25 .skip)
def f17r27 : List AI := [⟨none, (.mov 8 (.t 4))⟩, ⟨none, (.bin 9 .neq (.t 8) (.v (.k (.c (.int .i64 0)))))⟩]
def f17b28 : AQ := (.seq (.region f17r27) f17b26)
def f17r29 : List AI := [⟨none, (.load 6 4 true (.t 1))⟩, ⟨none, (.call (some 7) 33 [(.t 6)])⟩, ⟨none, (.mov 4 (.t 7))⟩]
def f17b30 : AQ := (.seq (.region f17r29) f17b28)
def f17b31 : AQ := (.seq f17b30 f17b23)
def f17r32 : List AI := [⟨none, (.box 1 27 (.t 0))⟩, ⟨none, (.alloc 2 27 [(.list 0 (some true) []), (.list 0 (some true) []), (.int .i64 0), (.bool false)])⟩, ⟨none, (.mov 3 (.v (.k (.c (.int .i64 0)))))⟩]
def f17b33 : AQ := (.seq (.region f17r32) f17b31)
def f17 : AQ := f17b33
theorem hf17 : cFunc Tryd.prog 17 = some ⟨32, f17.erase, [(RX.cell 2 4 true), (RX.t 3)]⟩ := by kernel_rfl
theorem okf17 : f17.ok = true := by kernel_rfl
def f20r1 : List AI := [⟨none, (.faddr 11 0 (.t 4))⟩, ⟨none, (.load 12 1 false (.t 11))⟩, ⟨none, (.mov 13 (.t 5))⟩, ⟨none, (.mov 2 (.t 12))⟩, ⟨none, (.mov 3 (.t 13))⟩]
def f20b2 : AQ := (.seq (.region f20r1) .ret)
def f20r3 : List AI := [⟨none, (.load 7 4 true (.t 1))⟩, ⟨none, (.call (some 8) 27 [(.t 7)])⟩, ⟨none, (.mov 6 (.t 8))⟩, ⟨none, (.extr 9 (.t 6) 0)⟩, ⟨none, (.extr 10 (.t 6) 1)⟩, ⟨none, (.alloc 4 53 [(.list 0 (some true) []), (.str []), (.int .i64 0)])⟩, ⟨none, (.store 3 (.t 4) (.t 9))⟩, ⟨none, (.mov 5 (.t 10))⟩]
def f20b4 : AQ := (.seq (.region f20r3) f20b2)
def f20r5 : List AI := [⟨none, (.box 1 27 (.t 0))⟩, ⟨none, (.nilL 2 9 1)⟩, ⟨none, (.mov 3 (.v (.k (.c (.int .i64 0)))))⟩]
def f20b6 : AQ := (.seq (.region f20r5) f20b4)
def f20 : AQ := f20b6
theorem hf20 : cFunc Tryd.prog 20 = some ⟨14, f20.erase, [(RX.t 2), (RX.t 3)]⟩ := by kernel_rfl
theorem okf20 : f20.ok = true := by kernel_rfl
def f21r1 : List AI := [⟨none, (.mov 4 (.v (.k (.c (.bool true)))))⟩]
def f21b2 : AQ := (.seq (.region f21r1) .ret)
def f21r3 : List AI := [⟨none, (.mov 15 (.t 5))⟩, ⟨none, (.bin 16 .add (.t 15) (.v (.k (.c (.int .i64 1)))))⟩, ⟨none, (.mov 5 (.t 16))⟩]
def f21r4 : List AI := [⟨none, (.mov 4 (.v (.k (.c (.bool false)))))⟩]
def f21b5 : AQ := (.seq (.region f21r4) .ret)
def f21b6 : AQ := (.cond (.t 25) f21b5 .skip)
def f21r7 : List AI := [⟨none, (.mov 17 (.t 0))⟩, ⟨none, (.mov 18 (.t 5))⟩, ⟨none, (.iaddr 19 1 (.t 17) (.t 18))⟩, ⟨none, (.load 20 1 false (.t 19))⟩, ⟨none, (.mov 21 (.t 1))⟩, ⟨none, (.mov 22 (.t 5))⟩, ⟨none, (.iaddr 23 1 (.t 21) (.t 22))⟩, ⟨none, (.load 24 1 false (.t 23))⟩, ⟨none, (.bin 25 .neq (.t 20) (.t 24))⟩]
def f21b8 : AQ := (.seq (.draw f21r7 [[], [], [0, 1], [2], [], [], [4, 5], [6], [3, 7]]) f21b6)
def f21b9 : AQ := (.block 1 f21b8)
def f21b10 : AQ := (.seq f21b9 (.region f21r3))
def f21b11 : AQ := (.cond (.t 14) .skip (.exit 0))
def f21r12 : List AI := [⟨none, (.mov 11 (.t 5))⟩, ⟨none, (.mov 12 (.t 0))⟩, ⟨none, (.len 13 (.t 12))⟩, ⟨none, (.bin 14 .lss (.t 11) (.t 13))⟩]
def f21b13 : AQ := (.seq (.region f21r12) f21b11)
def f21b14 : AQ := (.seq f21b13 f21b10)
def f21l15 : AQ := .loop [0, 1, 5] [] f21b14
theorem uf21l15 (P ts os Q) : awl P f21l15 Q ts os = awl P (.loop [0, 1, 5] [] f21b14) Q ts os := id rfl
def f21b16 : AQ := (.block 0 f21l15)
def f21r17 : List AI := [⟨none, (.mov 5 (.v (.k (.c (.int .i64 0)))))⟩]
def f21b18 : AQ := (.seq (.region f21r17) f21b16)
def f21b19 : AQ := (.seq f21b18 f21b2)
def f21r20 : List AI := [⟨none, (.mov 4 (.v (.k (.c (.bool false)))))⟩]
def f21b21 : AQ := (.seq (.region f21r20) .ret)
def f21b22 : AQ := (.cond (.t 10) f21b21 .skip)
def f21r23 : List AI := [⟨none, (.mov 6 (.t 0))⟩, ⟨none, (.len 7 (.t 6))⟩, ⟨none, (.mov 8 (.t 1))⟩, ⟨none, (.len 9 (.t 8))⟩, ⟨none, (.bin 10 .neq (.t 7) (.t 9))⟩]
def f21b24 : AQ := (.seq (.region f21r23) f21b22)
def f21b25 : AQ := (.seq f21b24 f21b19)
def f21r26 : List AI := [⟨none, (.mov 4 (.v (.k (.c (.bool false)))))⟩]
def f21b27 : AQ := (.seq (.region f21r26) f21b25)
def f21 : AQ := f21b27
theorem hf21 : cFunc Tryd.prog 21 = some ⟨26, f21.erase, [(RX.t 4)]⟩ := by kernel_rfl
theorem okf21 : f21.ok = true := by kernel_rfl
def f22r1 : List AI := [⟨none, (.faddr 29 0 (.t 6))⟩, ⟨none, (.load 30 1 false (.t 29))⟩, ⟨none, (.mov 31 (.t 1))⟩, ⟨none, (.iaddr 32 1 (.t 30) (.t 31))⟩, ⟨none, (.load 33 1 false (.t 32))⟩, ⟨none, (.mov 4 (.t 33))⟩, ⟨none, (.mov 5 (.v (.k (.c (.int .i64 0)))))⟩]
def f22b2 : AQ := (.seq (.region f22r1) .ret)
def f22r3 : List AI := [⟨none, (.mov 28 (.t 7))⟩, ⟨none, (.mov 4 (.v (.k (.c (.str [])))))⟩, ⟨none, (.mov 5 (.t 28))⟩]
def f22b4 : AQ := (.seq (.region f22r3) .ret)
def f22b5 : AQ := (.cond (.t 27) f22b4 .skip)
def f22r6 : List AI := [⟨none, (.mov 26 (.t 7))⟩, ⟨none, (.bin 27 .neq (.t 26) (.v (.k (.c (.int .i64 0)))))⟩]
def f22b7 : AQ := (.seq (.region f22r6) f22b5)
def f22b8 : AQ := (.seq f22b7 f22b2)
def f22r9 : List AI := [⟨none, (.mov 7 (.v (.k (.c (.int .i64 4)))))⟩]
def f22b10 : AQ := (.cond (.t 25) (.region f22r9) .skip)
def f22r11 : List AI := [⟨none, (.mov 13 (.t 7))⟩, ⟨none, (.bin 14 .eql (.t 13) (.v (.k (.c (.int .i64 0)))))⟩, ⟨none, (.mov 15 (.t 14))⟩, ⟨(some (15, true)), (.mov 16 (.t 1))⟩, ⟨(some (15, true)), (.bin 17 .lss (.t 16) (.v (.k (.c (.int .i64 0)))))⟩, ⟨(some (15, true)), (.mov 18 (.t 17))⟩, ⟨(some (18, false)), (.mov 19 (.t 1))⟩, ⟨(some (18, false)), (.faddr 20 0 (.t 6))⟩, ⟨(some (18, false)), (.load 21 1 false (.t 20))⟩, ⟨(some (18, false)), (.len 22 (.t 21))⟩, ⟨(some (18, false)), (.bin 23 .geq (.t 19) (.t 22))⟩, ⟨(some (15, true)), (.pick 24 (.t 18) (.v (.k (.c (.bool true)))) (.t 23))⟩, ⟨none, (.pick 25 (.t 15) (.t 24) (.v (.k (.c (.bool false)))))⟩]
def f22b12 : AQ := (.seq (.region f22r11) f22b10)
def f22b13 : AQ := (.seq f22b12 f22b8)
def f22r14 : List AI := [⟨none, (.load 9 4 true (.t 2))⟩, ⟨none, (.call (some 10) 27 [(.t 9)])⟩, ⟨none, (.mov 8 (.t 10))⟩, ⟨none, (.extr 11 (.t 8) 0)⟩, ⟨none, (.extr 12 (.t 8) 1)⟩, ⟨none, (.alloc 6 53 [(.list 0 (some true) []), (.str []), (.int .i64 0)])⟩, ⟨none, (.store 3 (.t 6) (.t 11))⟩, ⟨none, (.mov 7 (.t 12))⟩]
def f22b15 : AQ := (.seq (.region f22r14) f22b13)
def f22r16 : List AI := [⟨none, (.box 2 27 (.t 0))⟩, ⟨none, (.mov 4 (.v (.k (.c (.str [])))))⟩, ⟨none, (.mov 5 (.v (.k (.c (.int .i64 0)))))⟩]
def f22b17 : AQ := (.seq (.region f22r16) f22b15)
def f22 : AQ := f22b17
theorem hf22 : cFunc Tryd.prog 22 = some ⟨34, f22.erase, [(RX.t 4), (RX.t 5)]⟩ := by kernel_rfl
theorem okf22 : f22.ok = true := by kernel_rfl
def f24r1 : List AI := [⟨none, (.faddr 11 0 (.t 4))⟩, ⟨none, (.load 12 1 false (.t 11))⟩, ⟨none, (.len 13 (.t 12))⟩, ⟨none, (.mov 14 (.t 5))⟩, ⟨none, (.mov 2 (.t 13))⟩, ⟨none, (.mov 3 (.t 14))⟩]
def f24b2 : AQ := (.seq (.region f24r1) .ret)
def f24r3 : List AI := [⟨none, (.load 7 4 true (.t 1))⟩, ⟨none, (.call (some 8) 27 [(.t 7)])⟩, ⟨none, (.mov 6 (.t 8))⟩, ⟨none, (.extr 9 (.t 6) 0)⟩, ⟨none, (.extr 10 (.t 6) 1)⟩, ⟨none, (.alloc 4 53 [(.list 0 (some true) []), (.str []), (.int .i64 0)])⟩, ⟨none, (.store 3 (.t 4) (.t 9))⟩, ⟨none, (.mov 5 (.t 10))⟩]
def f24b4 : AQ := (.seq (.region f24r3) f24b2)
def f24r5 : List AI := [⟨none, (.box 1 27 (.t 0))⟩, ⟨none, (.mov 2 (.v (.k (.c (.int .i64 0)))))⟩, ⟨none, (.mov 3 (.v (.k (.c (.int .i64 0)))))⟩]
def f24b6 : AQ := (.seq (.region f24r5) f24b4)
def f24 : AQ := f24b6
theorem hf24 : cFunc Tryd.prog 24 = some ⟨15, f24.erase, [(RX.t 2), (RX.t 3)]⟩ := by kernel_rfl
theorem okf24 : f24.ok = true := by kernel_rfl
def f25r1 : List AI := [⟨none, (.load 22 4 true (.t 2))⟩, ⟨none, (.store 4 (.t 4) (.t 22))⟩, ⟨none, (.mov 5 (.v (.k (.c (.int .i64 0)))))⟩]
def f25b2 : AQ := (.seq (.region f25r1) .ret)
def f25r3 : List AI := [⟨none, (.mov 20 (.t 1))⟩, ⟨none, (.faddr 21 2 (.t 2))⟩, ⟨none, (.store 1 (.t 21) (.t 20))⟩]
def f25b4 : AQ := (.seq (.region f25r3) f25b2)
def f25r5 : List AI := [⟨none, (.build 19 [(.list 0 (some true) []), (.list 0 (some true) []), (.int .i64 0), (.bool false)] [])⟩, ⟨none, (.store 4 (.t 4) (.t 19))⟩, ⟨none, (.mov 5 (.v (.k (.c (.int .i64 1)))))⟩]
def f25b6 : AQ := (.seq (.region f25r5) .ret)
def f25b7 : AQ := (.cond (.t 18) f25b6 .skip)
def f25r8 : List AI := [⟨none, (.mov 13 (.t 1))⟩, ⟨none, (.bin 14 .lss (.t 13) (.v (.k (.c (.int .i64 0)))))⟩, ⟨none, (.mov 15 (.t 14))⟩, ⟨(some (15, false)), (.mov 16 (.t 1))⟩, ⟨(some (15, false)), (.bin 17 .gtr (.t 16) (.v (.k (.c (.int .i64 512)))))⟩, ⟨none, (.pick 18 (.t 15) (.v (.k (.c (.bool true)))) (.t 17))⟩]
def f25b9 : AQ := (.seq (.region f25r8) f25b7)
def f25b10 : AQ := (.seq f25b9 f25b4)
def f25r11 : List AI := [⟨none, (.build 11 [(.list 0 (some true) []), (.list 0 (some true) []), (.int .i64 0), (.bool false)] [])⟩, ⟨none, (.mov 12 (.t 6))⟩, ⟨none, (.store 4 (.t 4) (.t 11))⟩, ⟨none, (.mov 5 (.t 12))⟩]
def f25b12 : AQ := (.seq (.region f25r11) .ret)
def f25b13 : AQ := (.cond (.t 10) f25b12 .skip)
def f25r14 : List AI := [⟨none, (.mov 9 (.t 6))⟩, ⟨none, (.bin 10 .neq (.t 9) (.v (.k (.c (.int .i64 0)))))⟩]
def f25b15 : AQ := (.seq (.region f25r14) f25b13)
def f25b16 : AQ := (.seq f25b15 f25b10)
def f25r17 : List AI := [⟨none, (.load 7 4 true (.t 2))⟩, ⟨none, (.call (some 8) 38 [(.t 7)])⟩, ⟨none, (.mov 6 (.t 8))⟩]
def f25b18 : AQ := (.seq (.region f25r17) f25b16)
def f25r19 : List AI := [⟨none, (.box 2 27 (.t 0))⟩, ⟨none, (.alloc 4 27 [(.list 0 (some true) []), (.list 0 (some true) []), (.int .i64 0), (.bool false)])⟩, ⟨none, (.mov 5 (.v (.k (.c (.int .i64 0)))))⟩]
def f25b20 : AQ := (.seq (.region f25r19) f25b18)
def f25 : AQ := f25b20
theorem hf25 : cFunc Tryd.prog 25 = some ⟨23, f25.erase, [(RX.cell 4 4 true), (RX.t 5)]⟩ := by kernel_rfl
theorem okf25 : f25.ok = true := by kernel_rfl
def f26r1 : List AI := [⟨none, (.load 13 4 true (.t 1))⟩, ⟨none, (.store 4 (.t 2) (.t 13))⟩, ⟨none, (.mov 3 (.v (.k (.c (.int .i64 0)))))⟩]
def f26b2 : AQ := (.seq (.region f26r1) .ret)
def f26r3 : List AI := [⟨none, (.faddr 12 3 (.t 1))⟩, ⟨none, (.store 1 (.t 12) (.v (.k (.c (.bool false)))))⟩]
def f26b4 : AQ := (.seq (.region f26r3) f26b2)
def f26r5 : List AI := [⟨none, (.build 11 [(.list 0 (some true) []), (.list 0 (some true) []), (.int .i64 0), (.bool false)] [])⟩, ⟨none, (.store 4 (.t 2) (.t 11))⟩, ⟨none, (.mov 3 (.v (.k (.c (.int .i64 7)))))⟩]
def f26b6 : AQ := (.seq (.region f26r5) .ret)
def f26b7 : AQ := (.cond (.t 10) f26b6 .skip)
def f26r8 : List AI := [⟨none, (.faddr 8 3 (.t 1))⟩, ⟨none, (.load 9 1 false (.t 8))⟩, ⟨none, (.un 10 .not (.t 9))⟩]
def f26b9 : AQ := (.seq (.region f26r8) f26b7)
def f26b10 : AQ := (.seq f26b9 f26b4)
def f26r11 : List AI := [⟨none, (.build 7 [(.list 0 (some true) []), (.list 0 (some true) []), (.int .i64 0), (.bool false)] [])⟩, ⟨none, (.store 4 (.t 2) (.t 7))⟩, ⟨none, (.mov 3 (.v (.k (.c (.int .i64 1)))))⟩]
def f26b12 : AQ := (.seq (.region f26r11) .ret)
def f26b13 : AQ := (.cond (.t 6) f26b12 .skip)
def f26r14 : List AI := [⟨none, (.load 4 4 true (.t 1))⟩, ⟨none, (.call (some 5) 39 [(.t 4)])⟩, ⟨none, (.bin 6 .neq (.t 5) (.v (.k (.c (.int .i64 0)))))⟩]
def f26b15 : AQ := (.seq (.region f26r14) f26b13)
def f26b16 : AQ := (.seq f26b15 f26b10)
def f26r17 : List AI := [⟨none, (.box 1 27 (.t 0))⟩, ⟨none, (.alloc 2 27 [(.list 0 (some true) []), (.list 0 (some true) []), (.int .i64 0), (.bool false)])⟩, ⟨none, (.mov 3 (.v (.k (.c (.int .i64 0)))))⟩]
def f26b18 : AQ := (.seq (.region f26r17) f26b16)
def f26 : AQ := f26b18
theorem hf26 : cFunc Tryd.prog 26 = some ⟨14, f26.erase, [(RX.cell 2 4 true), (RX.t 3)]⟩ := by kernel_rfl
theorem okf26 : f26.ok = true := by kernel_rfl
def f27r1 : List AI := [⟨none, (.load 106 3 true (.t 5))⟩, ⟨none, (.store 3 (.t 2) (.t 106))⟩, ⟨none, (.mov 3 (.v (.k (.c (.int .i64 0)))))⟩]
def f27b2 : AQ := (.seq (.region f27r1) .ret)
def f27r3 : List AI := [⟨none, (.faddr 99 0 (.t 5))⟩, ⟨none, (.load 100 1 false (.t 99))⟩, ⟨none, (.mov 101 (.t 12))⟩, ⟨none, (.bslice 102 9 1 [(.str [])] 1 [(0, (.t 101))])⟩, ⟨none, (.append 103 9 1 16 (.t 100) (.t 102))⟩, ⟨none, (.mov 104 (.t 13))⟩, ⟨none, (.faddr 105 0 (.t 5))⟩, ⟨none, (.store 1 (.t 105) (.t 103))⟩, ⟨none, (.mov 11 (.t 104))⟩]
def f27r4 : List AI := [⟨none, (.build 98 [(.list 0 (some true) []), (.str []), (.int .i64 0)] [])⟩, ⟨none, (.store 3 (.t 2) (.t 98))⟩, ⟨none, (.mov 3 (.v (.k (.c (.int .i64 22)))))⟩]
def f27b5 : AQ := (.seq (.region f27r4) .ret)
def f27b6 : AQ := (.cond (.t 97) f27b5 .skip)
def f27r7 : List AI := [⟨none, (.mov 85 (.t 14))⟩, ⟨none, (.un 86 .not (.t 85))⟩, ⟨none, (.mov 87 (.t 86))⟩, ⟨(some (87, false)), (.mov 88 (.t 12))⟩, ⟨(some (87, false)), (.lenS 89 (.t 88))⟩, ⟨(some (87, false)), (.bin 90 .gtr (.t 89) (.v (.k (.c (.int .i64 2000)))))⟩, ⟨none, (.pick 91 (.t 87) (.v (.k (.c (.bool true)))) (.t 90))⟩, ⟨none, (.mov 92 (.t 91))⟩, ⟨(some (92, false)), (.faddr 93 0 (.t 5))⟩, ⟨(some (92, false)), (.load 94 1 false (.t 93))⟩, ⟨(some (92, false)), (.len 95 (.t 94))⟩, ⟨(some (92, false)), (.bin 96 .eql (.t 95) (.v (.k (.c (.int .i64 500)))))⟩, ⟨none, (.pick 97 (.t 92) (.v (.k (.c (.bool true)))) (.t 96))⟩]
def f27b8 : AQ := (.seq (.region f27r7) f27b6)
def f27b9 : AQ := (.seq f27b8 (.region f27r3))
def f27r10 : List AI := [⟨none, (.mov 80 (.t 11))⟩, ⟨none, (.call (some 81) 42 [(.t 80)])⟩, ⟨none, (.mov 79 (.t 81))⟩, ⟨none, (.extr 82 (.t 79) 0)⟩, ⟨none, (.extr 83 (.t 79) 1)⟩, ⟨none, (.extr 84 (.t 79) 2)⟩, ⟨none, (.mov 12 (.t 82))⟩, ⟨none, (.mov 13 (.t 83))⟩, ⟨none, (.mov 14 (.t 84))⟩]
def f27b11 : AQ := (.seq (.region f27r10) f27b9)
def f27b12 : AQ := (.block 1 f27b11)
def f27b13 : AQ := (.cond (.t 78) .skip (.exit 0))
def f27r14 : List AI := [⟨none, (.mov 77 (.t 11))⟩, ⟨none, (.bin 78 .neq (.t 77) (.v (.k (.c (.str [])))))⟩]
def f27b15 : AQ := (.seq (.region f27r14) f27b13)
def f27b16 : AQ := (.seq f27b15 f27b12)
def f27l17 : AQ := .loop [2, 5, 11] [2, 5, 103] f27b16
theorem uf27l17 (P ts os Q) : awl P f27l17 Q ts os = awl P (.loop [2, 5, 11] [2, 5, 103] f27b16) Q ts os := id rfl
def f27b18 : AQ := (.block 0 f27l17)
def f27r19 : List AI := [⟨none, (.faddr 75 1 (.t 5))⟩, ⟨none, (.load 76 1 false (.t 75))⟩, ⟨none, (.mov 11 (.t 76))⟩]
def f27b20 : AQ := (.seq (.region f27r19) f27b18)
def f27b21 : AQ := (.seq f27b20 f27b2)
def f27r22 : List AI := [⟨none, (.mov 71 (.t 10))⟩, ⟨none, (.mov 72 (.t 6))⟩, ⟨none, (.slstr 73 (.t 71) none (some (.t 72)))⟩, ⟨none, (.faddr 74 1 (.t 5))⟩, ⟨none, (.store 1 (.t 74) (.t 73))⟩]
def f27b23 : AQ := (.seq (.region f27r22) f27b21)
def f27r24 : List AI := [⟨none, (.build 70 [(.list 0 (some true) []), (.str []), (.int .i64 0)] [])⟩, ⟨none, (.store 3 (.t 2) (.t 70))⟩, ⟨none, (.mov 3 (.v (.k (.c (.int .i64 22)))))⟩]
def f27b25 : AQ := (.seq (.region f27r24) .ret)
def f27b26 : AQ := (.cond (.t 69) f27b25 .skip)
def f27r27 : List AI := [⟨none, (.mov 58 (.t 7))⟩, ⟨none, (.un 59 .not (.t 58))⟩, ⟨none, (.mov 60 (.t 59))⟩, ⟨(some (60, true)), (.mov 61 (.t 9))⟩, ⟨(some (60, true)), (.un 62 .not (.t 61))⟩, ⟨none, (.pick 63 (.t 60) (.t 62) (.v (.k (.c (.bool false)))))⟩, ⟨none, (.mov 64 (.t 63))⟩, ⟨(some (64, false)), (.mov 65 (.t 6))⟩, ⟨(some (64, false)), (.mov 66 (.t 10))⟩, ⟨(some (64, false)), (.lenS 67 (.t 66))⟩, ⟨(some (64, false)), (.bin 68 .gtr (.t 65) (.t 67))⟩, ⟨none, (.pick 69 (.t 64) (.v (.k (.c (.bool true)))) (.t 68))⟩]
def f27b28 : AQ := (.seq (.region f27r27) f27b26)
def f27b29 : AQ := (.seq f27b28 f27b23)
def f27r30 : List AI := [⟨none, (.faddr 54 0 (.t 1))⟩, ⟨none, (.load 55 1 false (.t 54))⟩, ⟨none, (.slice 56 1 (.t 55) (some (.v (.k (.c (.int .i64 2))))) none)⟩, ⟨none, (.call (some 57) 41 [(.t 56), (.v (.k (.c (.str []))))])⟩, ⟨none, (.mov 10 (.t 57))⟩]
def f27b31 : AQ := (.seq (.region f27r30) f27b29)
def f27r32 : List AI := [⟨none, (.mov 52 (.t 8))⟩, ⟨none, (.mov 6 (.t 52))⟩, ⟨none, (.faddr 53 2 (.t 5))⟩, ⟨none, (.store 1 (.t 53) (.v (.k (.c (.int .i64 1)))))⟩]
def f27b33 : AQ := (.cond (.t 51) (.region f27r32) .skip)
def f27r34 : List AI := [⟨none, (.mov 42 (.t 9))⟩, ⟨none, (.mov 43 (.t 42))⟩, ⟨(some (43, true)), (.mov 44 (.t 7))⟩, ⟨(some (43, true)), (.un 45 .not (.t 44))⟩, ⟨(some (43, true)), (.mov 46 (.t 45))⟩, ⟨(some (46, false)), (.mov 47 (.t 8))⟩, ⟨(some (46, false)), (.mov 48 (.t 6))⟩, ⟨(some (46, false)), (.bin 49 .gtr (.t 47) (.t 48))⟩, ⟨(some (43, true)), (.pick 50 (.t 46) (.v (.k (.c (.bool true)))) (.t 49))⟩, ⟨none, (.pick 51 (.t 43) (.t 50) (.v (.k (.c (.bool false)))))⟩]
def f27b35 : AQ := (.seq (.region f27r34) f27b33)
def f27b36 : AQ := (.seq f27b35 (.keep [1, 2, 5, 6, 7, 9] [1, 2, 5, 103] f27b31))
def f27r37 : List AI := [⟨none, (.faddr 35 0 (.t 1))⟩, ⟨none, (.load 36 1 false (.t 35))⟩, ⟨none, (.iaddr 37 1 (.t 36) (.v (.k (.c (.int .i64 1)))))⟩, ⟨none, (.load 38 1 false (.t 37))⟩, ⟨none, (.call (some 39) 40 [(.t 38)])⟩, ⟨none, (.mov 34 (.t 39))⟩, ⟨none, (.extr 40 (.t 34) 0)⟩, ⟨none, (.extr 41 (.t 34) 1)⟩, ⟨none, (.mov 8 (.t 40))⟩, ⟨none, (.mov 9 (.t 41))⟩]
def f27b38 : AQ := (.seq (.region f27r37) f27b36)
def f27r39 : List AI := [⟨none, (.faddr 27 0 (.t 1))⟩, ⟨none, (.load 28 1 false (.t 27))⟩, ⟨none, (.iaddr 29 1 (.t 28) (.v (.k (.c (.int .i64 0)))))⟩, ⟨none, (.load 30 1 false (.t 29))⟩, ⟨none, (.call (some 31) 40 [(.t 30)])⟩, ⟨none, (.mov 26 (.t 31))⟩, ⟨none, (.extr 32 (.t 26) 0)⟩, ⟨none, (.extr 33 (.t 26) 1)⟩, ⟨none, (.mov 6 (.t 32))⟩, ⟨none, (.mov 7 (.t 33))⟩]
def f27b40 : AQ := (.seq (.region f27r39) f27b38)
def f27r41 : List AI := [⟨none, (.alloc 5 53 [(.list 0 (some true) []), (.str []), (.int .i64 0)])⟩]
def f27b42 : AQ := (.seq (.region f27r41) f27b40)
def f27r43 : List AI := [⟨none, (.build 25 [(.list 0 (some true) []), (.str []), (.int .i64 0)] [])⟩, ⟨none, (.store 3 (.t 2) (.t 25))⟩, ⟨none, (.mov 3 (.v (.k (.c (.int .i64 22)))))⟩]
def f27b44 : AQ := (.seq (.region f27r43) .ret)
def f27b45 : AQ := (.cond (.t 24) f27b44 .skip)
def f27r46 : List AI := [⟨none, (.faddr 21 0 (.t 1))⟩, ⟨none, (.load 22 1 false (.t 21))⟩, ⟨none, (.len 23 (.t 22))⟩, ⟨none, (.bin 24 .leq (.t 23) (.v (.k (.c (.int .i64 2)))))⟩]
def f27b47 : AQ := (.seq (.region f27r46) f27b45)
def f27b48 : AQ := (.seq f27b47 f27b42)
def f27r49 : List AI := [⟨none, (.build 19 [(.list 0 (some true) []), (.str []), (.int .i64 0)] [])⟩, ⟨none, (.mov 20 (.t 4))⟩, ⟨none, (.store 3 (.t 2) (.t 19))⟩, ⟨none, (.mov 3 (.t 20))⟩]
def f27b50 : AQ := (.seq (.region f27r49) .ret)
def f27b51 : AQ := (.cond (.t 18) f27b50 .skip)
def f27r52 : List AI := [⟨none, (.mov 17 (.t 4))⟩, ⟨none, (.bin 18 .neq (.t 17) (.v (.k (.c (.int .i64 0)))))⟩]
def f27b53 : AQ := (.seq (.region f27r52) f27b51)
def f27r54 : List AI := [⟨none, (.load 15 4 true (.t 1))⟩, ⟨none, (.call (some 16) 33 [(.t 15)])⟩, ⟨none, (.mov 4 (.t 16))⟩]
def f27b55 : AQ := (.seq (.region f27r54) f27b53)
def f27b56 : AQ := (.seq f27b55 f27b48)
def f27r57 : List AI := [⟨none, (.box 1 27 (.t 0))⟩, ⟨none, (.alloc 2 53 [(.list 0 (some true) []), (.str []), (.int .i64 0)])⟩, ⟨none, (.mov 3 (.v (.k (.c (.int .i64 0)))))⟩]
def f27b58 : AQ := (.seq (.region f27r57) f27b56)
def f27 : AQ := f27b58
theorem hf27 : cFunc Tryd.prog 27 = some ⟨107, f27.erase, [(RX.cell 2 3 true), (RX.t 3)]⟩ := by kernel_rfl
theorem okf27 : f27.ok = true := by kernel_rfl
def f28r1 : List AI := [⟨none, (.load 50 4 true (.t 3))⟩, ⟨none, (.store 4 (.t 6) (.t 50))⟩, ⟨none, (.mov 7 (.v (.k (.c (.int .i64 0)))))⟩]
def f28b2 : AQ := (.seq (.region f28r1) .ret)
def f28r3 : List AI := [⟨none, (.faddr 37 1 (.t 3))⟩, ⟨none, (.load 38 1 false (.t 37))⟩, ⟨none, (.mov 39 (.t 1))⟩, ⟨none, (.mov 40 (.t 2))⟩, ⟨none, (.mov 41 (.t 2))⟩, ⟨none, (.lenS 42 (.t 41))⟩, ⟨none, (.bin 43 .sub (.v (.k (.c (.int .i64 16)))) (.t 42))⟩, ⟨none, (.call (some 44) 43 [(.v (.k (.c (.str [0])))), (.t 43)])⟩, ⟨none, (.bin 45 .add (.t 40) (.t 44))⟩, ⟨none, (.build 46 [(.int .i64 0), (.str [])] [(0, (1, (.t 39))), (1, (1, (.t 45)))])⟩, ⟨none, (.bslice 47 67 2 [(.int .i64 0), (.str [])] 1 [(0, (.t 46))])⟩, ⟨none, (.append 48 67 2 24 (.t 38) (.t 47))⟩, ⟨none, (.faddr 49 1 (.t 3))⟩, ⟨none, (.store 1 (.t 49) (.t 48))⟩]
def f28b4 : AQ := (.seq (.draw f28r3 [[], [0], [], [], [], [4], [5], [6], [3, 7], [2, 8], [9], [1, 10, 7], [0, 1, 2, 3, 4, 5, 6, 7, 8, 9, 10, 11], [12, 11, 11, 0, 1, 2, 3, 4, 5, 6, 7, 8, 9, 10, 11]]) f28b2)
def f28r5 : List AI := [⟨none, (.load 35 4 true (.t 3))⟩, ⟨none, (.call (some 36) 36 [(.t 35)])⟩, ⟨none, (.store 4 (.t 3) (.t 36))⟩]
def f28b6 : AQ := (.seq (.region f28r5) f28b4)
def f28r7 : List AI := [⟨none, (.build 34 [(.list 0 (some true) []), (.list 0 (some true) []), (.int .i64 0), (.bool false)] [])⟩, ⟨none, (.store 4 (.t 6) (.t 34))⟩, ⟨none, (.mov 7 (.v (.k (.c (.int .i64 6)))))⟩]
def f28b8 : AQ := (.seq (.region f28r7) .ret)
def f28b9 : AQ := (.cond (.t 33) f28b8 .skip)
def f28r10 : List AI := [⟨none, (.faddr 30 1 (.t 3))⟩, ⟨none, (.load 31 1 false (.t 30))⟩, ⟨none, (.len 32 (.t 31))⟩, ⟨none, (.bin 33 .eql (.t 32) (.v (.k (.c (.int .i64 512)))))⟩]
def f28b11 : AQ := (.seq (.region f28r10) f28b9)
def f28b12 : AQ := (.seq f28b11 f28b6)
def f28r13 : List AI := [⟨none, (.build 29 [(.list 0 (some true) []), (.list 0 (some true) []), (.int .i64 0), (.bool false)] [])⟩, ⟨none, (.store 4 (.t 6) (.t 29))⟩, ⟨none, (.mov 7 (.v (.k (.c (.int .i64 1)))))⟩]
def f28b14 : AQ := (.seq (.region f28r13) .ret)
def f28b15 : AQ := (.cond (.t 28) f28b14 .skip)
def f28r16 : List AI := [⟨none, (.mov 15 (.t 1))⟩, ⟨none, (.bin 16 .lss (.t 15) (.v (.k (.c (.int .i64 0)))))⟩, ⟨none, (.mov 17 (.t 16))⟩, ⟨(some (17, false)), (.mov 18 (.t 1))⟩, ⟨(some (17, false)), (.faddr 19 0 (.t 3))⟩, ⟨(some (17, false)), (.load 20 1 false (.t 19))⟩, ⟨(some (17, false)), (.len 21 (.t 20))⟩, ⟨(some (17, false)), (.bin 22 .geq (.t 18) (.t 21))⟩, ⟨none, (.pick 23 (.t 17) (.v (.k (.c (.bool true)))) (.t 22))⟩, ⟨none, (.mov 24 (.t 23))⟩, ⟨(some (24, false)), (.mov 25 (.t 2))⟩, ⟨(some (24, false)), (.lenS 26 (.t 25))⟩, ⟨(some (24, false)), (.bin 27 .gtr (.t 26) (.v (.k (.c (.int .i64 16)))))⟩, ⟨none, (.pick 28 (.t 24) (.v (.k (.c (.bool true)))) (.t 27))⟩]
def f28b17 : AQ := (.seq (.region f28r16) f28b15)
def f28b18 : AQ := (.seq f28b17 f28b12)
def f28r19 : List AI := [⟨none, (.build 13 [(.list 0 (some true) []), (.list 0 (some true) []), (.int .i64 0), (.bool false)] [])⟩, ⟨none, (.mov 14 (.t 8))⟩, ⟨none, (.store 4 (.t 6) (.t 13))⟩, ⟨none, (.mov 7 (.t 14))⟩]
def f28b20 : AQ := (.seq (.region f28r19) .ret)
def f28b21 : AQ := (.cond (.t 12) f28b20 .skip)
def f28r22 : List AI := [⟨none, (.mov 11 (.t 8))⟩, ⟨none, (.bin 12 .neq (.t 11) (.v (.k (.c (.int .i64 0)))))⟩]
def f28b23 : AQ := (.seq (.region f28r22) f28b21)
def f28r24 : List AI := [⟨none, (.load 9 4 true (.t 3))⟩, ⟨none, (.call (some 10) 34 [(.t 9)])⟩, ⟨none, (.mov 8 (.t 10))⟩]
def f28b25 : AQ := (.seq (.region f28r24) f28b23)
def f28b26 : AQ := (.seq f28b25 f28b18)
def f28r27 : List AI := [⟨none, (.box 3 27 (.t 0))⟩, ⟨none, (.alloc 6 27 [(.list 0 (some true) []), (.list 0 (some true) []), (.int .i64 0), (.bool false)])⟩, ⟨none, (.mov 7 (.v (.k (.c (.int .i64 0)))))⟩]
def f28b28 : AQ := (.seq (.region f28r27) f28b26)
def f28 : AQ := f28b28
theorem hf28 : cFunc Tryd.prog 28 = some ⟨51, f28.erase, [(RX.cell 6 4 true), (RX.t 7)]⟩ := by kernel_rfl
theorem okf28 : f28.ok = true := by kernel_rfl
def f29r1 : List AI := [⟨none, (.load 85 4 true (.t 1))⟩, ⟨none, (.store 4 (.t 2) (.t 85))⟩, ⟨none, (.mov 3 (.v (.k (.c (.int .i64 0)))))⟩]
def f29b2 : AQ := (.seq (.region f29r1) .ret)
def f29r3 : List AI := [⟨none, (.faddr 80 2 (.t 1))⟩, ⟨none, (.load 81 1 false (.t 80))⟩, ⟨none, (.mov 82 (.t 5))⟩, ⟨none, (.bin 83 .sub (.t 81) (.t 82))⟩, ⟨none, (.faddr 84 2 (.t 1))⟩, ⟨none, (.store 1 (.t 84) (.t 83))⟩]
def f29b4 : AQ := (.cond (.t 79) (.region f29r3) .skip)
def f29r5 : List AI := [⟨none, (.faddr 77 2 (.t 1))⟩, ⟨none, (.load 78 1 false (.t 77))⟩, ⟨none, (.bin 79 .geq (.t 78) (.v (.k (.c (.int .i64 0)))))⟩]
def f29b6 : AQ := (.seq (.region f29r5) f29b4)
def f29b7 : AQ := (.seq f29b6 f29b2)
def f29r8 : List AI := [⟨none, (.faddr 76 1 (.t 1))⟩, ⟨none, (.store 1 (.t 76) (.v (.k (.c (.list 0 (some true) [])))))⟩]
def f29b9 : AQ := (.seq (.region f29r8) f29b7)
def f29r10 : List AI := [⟨none, (.load 74 4 true (.t 1))⟩, ⟨none, (.call (some 75) 35 [(.t 74)])⟩, ⟨none, (.store 4 (.t 2) (.t 75))⟩, ⟨none, (.mov 3 (.v (.k (.c (.int .i64 8)))))⟩]
def f29b11 : AQ := (.seq (.region f29r10) .ret)
def f29r12 : List AI := [⟨none, (.faddr 58 0 (.t 1))⟩, ⟨none, (.load 59 1 false (.t 58))⟩, ⟨none, (.faddr 60 0 (.t 9))⟩, ⟨none, (.load 61 1 false (.t 60))⟩, ⟨none, (.faddr 62 1 (.t 9))⟩, ⟨none, (.load 63 1 false (.t 62))⟩, ⟨none, (.slstr 64 (.t 63) none (some (.v (.k (.c (.int .i64 8))))))⟩, ⟨none, (.faddr 65 0 (.t 1))⟩, ⟨none, (.load 66 1 false (.t 65))⟩, ⟨none, (.faddr 67 0 (.t 9))⟩, ⟨none, (.load 68 1 false (.t 67))⟩, ⟨none, (.iaddr 69 1 (.t 66) (.t 68))⟩, ⟨none, (.load 70 1 false (.t 69))⟩, ⟨none, (.slstr 71 (.t 70) (some (.v (.k (.c (.int .i64 8))))) none)⟩, ⟨none, (.bin 72 .add (.t 64) (.t 71))⟩, ⟨none, (.iaddr 73 1 (.t 59) (.t 61))⟩, ⟨none, (.store 1 (.t 73) (.t 72))⟩]
def f29b13 : AQ := (.seq (.draw f29r12 [[], [0], [], [2], [], [4], [5], [], [7], [], [9], [8, 10], [11], [12], [6, 13], [1, 3, 0, 1, 2, 3, 4, 5, 6, 7, 8, 9, 10, 11, 12, 13, 14], [15, 14, 0, 1, 2, 3, 4, 5, 6, 7, 8, 9, 10, 11, 12, 13, 14]]) f29b11)
def f29r14 : List AI := [⟨none, (.faddr 53 1 (.t 1))⟩, ⟨none, (.load 54 1 false (.t 53))⟩, ⟨none, (.mov 55 (.t 5))⟩, ⟨none, (.iaddr 56 2 (.t 54) (.t 55))⟩, ⟨none, (.load 57 2 true (.t 56))⟩, ⟨none, (.alloc 9 67 [(.int .i64 0), (.str [])])⟩, ⟨none, (.store 2 (.t 9) (.t 57))⟩]
def f29b15 : AQ := (.seq (.region f29r14) f29b13)
def f29b16 : AQ := (.cond (.t 52) f29b15 .skip)
def f29r17 : List AI := [⟨none, (.mov 51 (.t 6))⟩, ⟨none, (.un 52 .not (.t 51))⟩]
def f29b18 : AQ := (.seq (.region f29r17) f29b16)
def f29b19 : AQ := (.seq f29b18 f29b9)
def f29r20 : List AI := [⟨none, (.bin 50 .add (.t 39) (.v (.k (.c (.int .i64 1)))))⟩, ⟨none, (.mov 39 (.t 50))⟩]
def f29r21 : List AI := [⟨none, (.faddr 43 0 (.t 1))⟩, ⟨none, (.load 44 1 false (.t 43))⟩, ⟨none, (.faddr 45 0 (.t 8))⟩, ⟨none, (.load 46 1 false (.t 45))⟩, ⟨none, (.faddr 47 1 (.t 8))⟩, ⟨none, (.load 48 1 false (.t 47))⟩, ⟨none, (.iaddr 49 1 (.t 44) (.t 46))⟩, ⟨none, (.store 1 (.t 49) (.t 48))⟩]
def f29r22 : List AI := [⟨none, (.iaddr 41 2 (.t 37) (.t 39))⟩, ⟨none, (.load 42 2 true (.t 41))⟩, ⟨none, (.alloc 8 67 [(.int .i64 0), (.str [])])⟩, ⟨none, (.store 2 (.t 8) (.t 42))⟩]
def f29b23 : AQ := (.seq (.region f29r22) (.region f29r21))
def f29b24 : AQ := (.block 1 f29b23)
def f29b25 : AQ := (.seq f29b24 (.region f29r20))
def f29b26 : AQ := (.cond (.t 40) .skip (.exit 0))
def f29b27 : AQ := (.seq f29b26 f29b25)
def f29r28 : List AI := [⟨none, (.bin 40 .lss (.t 39) (.t 38))⟩]
def f29b29 : AQ := (.seq (.region f29r28) f29b27)
def f29l30 : AQ := .loop [1, 2, 5, 6, 37, 38, 39] [1, 2, 17, 75, 18000, 18001, 18002, 76000, 76001, 76002] f29b29
theorem uf29l30 (P ts os Q) : awl P f29l30 Q ts os = awl P (.loop [1, 2, 5, 6, 37, 38, 39] [1, 2, 17, 75, 18000, 18001, 18002, 76000, 76001, 76002] f29b29) Q ts os := id rfl
def f29b31 : AQ := (.block 0 f29l30)
def f29r32 : List AI := [⟨none, (.faddr 34 1 (.t 1))⟩, ⟨none, (.load 35 1 false (.t 34))⟩, ⟨none, (.mov 36 (.t 5))⟩, ⟨none, (.slice 37 2 (.t 35) none (some (.t 36)))⟩, ⟨none, (.len 38 (.t 37))⟩, ⟨none, (.mov 39 (.v (.k (.c (.int .i64 0)))))⟩]
def f29b33 : AQ := (.seq (.region f29r32) f29b31)
def f29b34 : AQ := (.seq f29b33 f29b19)
def f29r35 : List AI := [⟨none, (.faddr 32 2 (.t 1))⟩, ⟨none, (.load 33 1 false (.t 32))⟩, ⟨none, (.mov 5 (.t 33))⟩]
def f29b36 : AQ := (.cond (.t 31) (.region f29r35) .skip)
def f29r37 : List AI := [⟨none, (.mov 30 (.t 6))⟩, ⟨none, (.un 31 .not (.t 30))⟩]
def f29b38 : AQ := (.seq (.region f29r37) f29b36)
def f29b39 : AQ := (.seq f29b38 f29b34)
def f29r40 : List AI := [⟨none, (.faddr 21 2 (.t 1))⟩, ⟨none, (.load 22 1 false (.t 21))⟩, ⟨none, (.bin 23 .eql (.t 22) (.v (.k (.c (.int .i64 (-1))))))⟩, ⟨none, (.mov 24 (.t 23))⟩, ⟨(some (24, false)), (.faddr 25 2 (.t 1))⟩, ⟨(some (24, false)), (.load 26 1 false (.t 25))⟩, ⟨(some (24, false)), (.mov 27 (.t 5))⟩, ⟨(some (24, false)), (.bin 28 .geq (.t 26) (.t 27))⟩, ⟨none, (.pick 29 (.t 24) (.v (.k (.c (.bool true)))) (.t 28))⟩, ⟨none, (.mov 6 (.t 29))⟩]
def f29b41 : AQ := (.seq (.region f29r40) f29b39)
def f29r42 : List AI := [⟨none, (.faddr 18 1 (.t 1))⟩, ⟨none, (.load 19 1 false (.t 18))⟩, ⟨none, (.len 20 (.t 19))⟩, ⟨none, (.mov 5 (.t 20))⟩]
def f29b43 : AQ := (.seq (.region f29r42) f29b41)
def f29r44 : List AI := [⟨none, (.load 16 4 true (.t 1))⟩, ⟨none, (.call (some 17) 36 [(.t 16)])⟩, ⟨none, (.store 4 (.t 1) (.t 17))⟩]
def f29b45 : AQ := (.seq (.region f29r44) (.frz 18001 f29b43))
def f29r46 : List AI := [⟨none, (.build 14 [(.list 0 (some true) []), (.list 0 (some true) []), (.int .i64 0), (.bool false)] [])⟩, ⟨none, (.mov 15 (.t 4))⟩, ⟨none, (.store 4 (.t 2) (.t 14))⟩, ⟨none, (.mov 3 (.t 15))⟩]
def f29b47 : AQ := (.seq (.region f29r46) .ret)
def f29b48 : AQ := (.cond (.t 13) f29b47 .skip)
def f29r49 : List AI := [⟨none, (.mov 12 (.t 4))⟩, ⟨none, (.bin 13 .neq (.t 12) (.v (.k (.c (.int .i64 0)))))⟩]
def f29b50 : AQ := (.seq (.region f29r49) f29b48)
def f29r51 : List AI := [⟨none, (.load 10 4 true (.t 1))⟩, ⟨none, (.call (some 11) 34 [(.t 10)])⟩, ⟨none, (.mov 4 (.t 11))⟩]
def f29b52 : AQ := (.seq (.region f29r51) f29b50)
def f29b53 : AQ := (.seq f29b52 f29b45)
def f29r54 : List AI := [⟨none, (.box 1 27 (.t 0))⟩, ⟨none, (.alloc 2 27 [(.list 0 (some true) []), (.list 0 (some true) []), (.int .i64 0), (.bool false)])⟩, ⟨none, (.mov 3 (.v (.k (.c (.int .i64 0)))))⟩]
def f29b55 : AQ := (.seq (.region f29r54) f29b53)
def f29 : AQ := f29b55
theorem hf29 : cFunc Tryd.prog 29 = some ⟨86, f29.erase, [(RX.cell 2 4 true), (RX.t 3)]⟩ := by kernel_rfl
theorem okf29 : f29.ok = true := by kernel_rfl
def f31r1 : List AI := [⟨none, (.mov 3 (.t 0))⟩, ⟨none, (.call (some 4) 44 [(.t 3)])⟩, ⟨none, (.bin 5 .add (.t 4) (.v (.k (.c (.str [59])))))⟩, ⟨none, (.mov 2 (.t 5))⟩]
def f31b2 : AQ := (.seq (.region f31r1) .ret)
def f31r3 : List AI := [⟨none, (.mov 2 (.v (.k (.c (.str [])))))⟩]
def f31b4 : AQ := (.seq (.region f31r3) f31b2)
def f31 : AQ := f31b4
theorem hf31 : cFunc Tryd.prog 31 = some ⟨6, f31.erase, [(RX.t 2)]⟩ := by kernel_rfl
theorem okf31 : f31.ok = true := by kernel_rfl
def f32r1 : List AI := [⟨none, (.mov 12 (.t 3))⟩, ⟨none, (.mov 2 (.t 12))⟩]
def f32b2 : AQ := (.seq (.region f32r1) .ret)
def f32r3 : List AI := [⟨none, (.mov 8 (.t 4))⟩, ⟨none, (.bin 9 .add (.t 8) (.v (.k (.c (.int .i64 1)))))⟩, ⟨none, (.mov 4 (.t 9))⟩]
def f32r4 : List AI := [⟨none, (.mov 10 (.t 3))⟩, ⟨none, (.bin 11 .add (.t 10) (.v (.k (.c (.str [0])))))⟩, ⟨none, (.mov 3 (.t 11))⟩]
def f32b5 : AQ := (.block 1 (.region f32r4))
def f32b6 : AQ := (.seq f32b5 (.region f32r3))
def f32b7 : AQ := (.cond (.t 7) .skip (.exit 0))
def f32r8 : List AI := [⟨none, (.mov 5 (.t 4))⟩, ⟨none, (.mov 6 (.t 0))⟩, ⟨none, (.bin 7 .lss (.t 5) (.t 6))⟩]
def f32b9 : AQ := (.seq (.region f32r8) f32b7)
def f32b10 : AQ := (.seq f32b9 f32b6)
def f32l11 : AQ := .loop [0, 3, 4] [] f32b10
theorem uf32l11 (P ts os Q) : awl P f32l11 Q ts os = awl P (.loop [0, 3, 4] [] f32b10) Q ts os := id rfl
def f32b12 : AQ := (.block 0 f32l11)
def f32r13 : List AI := [⟨none, (.mov 4 (.v (.k (.c (.int .i64 0)))))⟩]
def f32b14 : AQ := (.seq (.region f32r13) f32b12)
def f32b15 : AQ := (.seq f32b14 f32b2)
def f32r16 : List AI := [⟨none, (.mov 3 (.v (.k (.c (.str [])))))⟩]
def f32b17 : AQ := (.seq (.region f32r16) f32b15)
def f32r18 : List AI := [⟨none, (.mov 2 (.v (.k (.c (.str [])))))⟩]
def f32b19 : AQ := (.seq (.region f32r18) f32b17)
def f32 : AQ := f32b19
theorem hf32 : cFunc Tryd.prog 32 = some ⟨13, f32.erase, [(RX.t 2)]⟩ := by kernel_rfl
theorem okf32 : f32.ok = true := by kernel_rfl
def f33r1 : List AI := [⟨none, (.mov 2 (.v (.k (.c (.int .i64 0)))))⟩]
def f33b2 : AQ := (.seq (.region f33r1) .ret)
def f33r3 : List AI := [⟨none, (.mov 2 (.v (.k (.c (.int .i64 1)))))⟩]
def f33b4 : AQ := (.seq (.region f33r3) .ret)
def f33r5 : List AI := [⟨none, (.mov 2 (.v (.k (.c (.int .i64 8)))))⟩]
def f33b6 : AQ := (.seq (.region f33r5) .ret)
def f33r7 : List AI := [⟨none, (.mov 2 (.v (.k (.c (.int .i64 7)))))⟩]
def f33b8 : AQ := (.seq (.region f33r7) .ret)
def f33b9 : AQ := (.cond (.t 10) f33b8 .skip)
def f33r10 : List AI := [⟨none, (.faddr 11 1 (.t 1))⟩, ⟨none, (.load 12 1 false (.t 11))⟩, ⟨none, (.len 13 (.t 12))⟩, ⟨none, (.bin 14 .gtr (.t 13) (.v (.k (.c (.int .i64 0)))))⟩, ⟨none, (.mov 10 (.t 14))⟩]
def f33b11 : AQ := (.seq (.region f33r10) f33b9)
def f33b12 : AQ := (.cond (.t 7) f33b6 f33b11)
def f33r13 : List AI := [⟨none, (.faddr 8 3 (.t 1))⟩, ⟨none, (.load 9 1 false (.t 8))⟩, ⟨none, (.mov 7 (.t 9))⟩]
def f33b14 : AQ := (.seq (.region f33r13) f33b12)
def f33b15 : AQ := (.cond (.t 3) f33b4 f33b14)
def f33r16 : List AI := [⟨none, (.load 4 4 true (.t 1))⟩, ⟨none, (.call (some 5) 45 [(.t 4)])⟩, ⟨none, (.bin 6 .neq (.t 5) (.v (.k (.c (.int .i64 0)))))⟩, ⟨none, (.mov 3 (.t 6))⟩]
def f33b17 : AQ := (.seq (.region f33r16) f33b15)
def f33b18 : AQ := (.block 0 f33b17)
def f33b19 : AQ := (.seq f33b18 f33b2)
def f33r20 : List AI := [⟨none, (.box 1 27 (.t 0))⟩, ⟨none, (.mov 2 (.v (.k (.c (.int .i64 0)))))⟩]
def f33b21 : AQ := (.seq (.region f33r20) f33b19)
def f33 : AQ := f33b21
theorem hf33 : cFunc Tryd.prog 33 = some ⟨15, f33.erase, [(RX.t 2)]⟩ := by kernel_rfl
theorem okf33 : f33.ok = true := by kernel_rfl
def f34r1 : List AI := [⟨none, (.mov 2 (.v (.k (.c (.int .i64 0)))))⟩]
def f34b2 : AQ := (.seq (.region f34r1) .ret)
def f34r3 : List AI := [⟨none, (.mov 2 (.v (.k (.c (.int .i64 1)))))⟩]
def f34b4 : AQ := (.seq (.region f34r3) .ret)
def f34r5 : List AI := [⟨none, (.mov 2 (.v (.k (.c (.int .i64 8)))))⟩]
def f34b6 : AQ := (.seq (.region f34r5) .ret)
def f34b7 : AQ := (.cond (.t 7) f34b6 .skip)
def f34r8 : List AI := [⟨none, (.faddr 8 3 (.t 1))⟩, ⟨none, (.load 9 1 false (.t 8))⟩, ⟨none, (.mov 7 (.t 9))⟩]
def f34b9 : AQ := (.seq (.region f34r8) f34b7)
def f34b10 : AQ := (.cond (.t 3) f34b4 f34b9)
def f34r11 : List AI := [⟨none, (.load 4 4 true (.t 1))⟩, ⟨none, (.call (some 5) 37 [(.t 4)])⟩, ⟨none, (.un 6 .not (.t 5))⟩, ⟨none, (.mov 3 (.t 6))⟩]
def f34b12 : AQ := (.seq (.region f34r11) f34b10)
def f34b13 : AQ := (.block 0 f34b12)
def f34b14 : AQ := (.seq f34b13 f34b2)
def f34r15 : List AI := [⟨none, (.box 1 27 (.t 0))⟩, ⟨none, (.mov 2 (.v (.k (.c (.int .i64 0)))))⟩]
def f34b16 : AQ := (.seq (.region f34r15) f34b14)
def f34 : AQ := f34b16
theorem hf34 : cFunc Tryd.prog 34 = some ⟨10, f34.erase, [(RX.t 2)]⟩ := by kernel_rfl
theorem okf34 : f34.ok = true := by kernel_rfl
def f35r1 : List AI := [⟨none, (.load 6 4 true (.t 1))⟩, ⟨none, (.store 4 (.t 2) (.t 6))⟩]
def f35b2 : AQ := (.seq (.region f35r1) .ret)
def f35r3 : List AI := [⟨none, (.faddr 3 1 (.t 1))⟩, ⟨none, (.store 1 (.t 3) (.v (.k (.c (.list 0 (some true) [])))))⟩, ⟨none, (.faddr 4 2 (.t 1))⟩, ⟨none, (.store 1 (.t 4) (.v (.k (.c (.int .i64 (-1))))))⟩, ⟨none, (.faddr 5 3 (.t 1))⟩, ⟨none, (.store 1 (.t 5) (.v (.k (.c (.bool true)))))⟩]
def f35b4 : AQ := (.seq (.region f35r3) f35b2)
def f35r5 : List AI := [⟨none, (.box 1 27 (.t 0))⟩, ⟨none, (.alloc 2 27 [(.list 0 (some true) []), (.list 0 (some true) []), (.int .i64 0), (.bool false)])⟩]
def f35b6 : AQ := (.seq (.region f35r5) f35b4)
def f35 : AQ := f35b6
theorem hf35 : cFunc Tryd.prog 35 = some ⟨7, f35.erase, [(RX.cell 2 4 true)]⟩ := by kernel_rfl
theorem okf35 : f35.ok = true := by kernel_rfl
def f37r1 : List AI := [⟨none, (.mov 2 (.v (.k (.c (.bool true)))))⟩]
def f37b2 : AQ := (.seq (.region f37r1) .ret)
def f37r3 : List AI := [⟨none, (.bin 83 .add (.t 62) (.v (.k (.c (.int .i64 1)))))⟩, ⟨none, (.mov 62 (.t 83))⟩]
def f37r4 : List AI := [⟨none, (.mov 2 (.v (.k (.c (.bool false)))))⟩]
def f37b5 : AQ := (.seq (.region f37r4) .ret)
def f37b6 : AQ := (.cond (.t 82) f37b5 .skip)
def f37r7 : List AI := [⟨none, (.faddr 66 0 (.t 6))⟩, ⟨none, (.load 67 1 false (.t 66))⟩, ⟨none, (.bin 68 .lss (.t 67) (.v (.k (.c (.int .i64 0)))))⟩, ⟨none, (.mov 69 (.t 68))⟩, ⟨(some (69, false)), (.faddr 70 0 (.t 6))⟩, ⟨(some (69, false)), (.load 71 1 false (.t 70))⟩, ⟨(some (69, false)), (.faddr 72 0 (.t 1))⟩, ⟨(some (69, false)), (.load 73 1 false (.t 72))⟩, ⟨(some (69, false)), (.len 74 (.t 73))⟩, ⟨(some (69, false)), (.bin 75 .geq (.t 71) (.t 74))⟩, ⟨none, (.pick 76 (.t 69) (.v (.k (.c (.bool true)))) (.t 75))⟩, ⟨none, (.mov 77 (.t 76))⟩, ⟨(some (77, false)), (.faddr 78 1 (.t 6))⟩, ⟨(some (77, false)), (.load 79 1 false (.t 78))⟩, ⟨(some (77, false)), (.lenS 80 (.t 79))⟩, ⟨(some (77, false)), (.bin 81 .neq (.t 80) (.v (.k (.c (.int .i64 16)))))⟩, ⟨none, (.pick 82 (.t 77) (.v (.k (.c (.bool true)))) (.t 81))⟩]
def f37b8 : AQ := (.seq (.region f37r7) f37b6)
def f37r9 : List AI := [⟨none, (.iaddr 64 2 (.t 60) (.t 62))⟩, ⟨none, (.load 65 2 true (.t 64))⟩, ⟨none, (.alloc 6 67 [(.int .i64 0), (.str [])])⟩, ⟨none, (.store 2 (.t 6) (.t 65))⟩]
def f37b10 : AQ := (.seq (.region f37r9) f37b8)
def f37b11 : AQ := (.block 3 f37b10)
def f37b12 : AQ := (.seq f37b11 (.region f37r3))
def f37b13 : AQ := (.cond (.t 63) .skip (.exit 2))
def f37b14 : AQ := (.seq f37b13 f37b12)
def f37r15 : List AI := [⟨none, (.bin 63 .lss (.t 62) (.t 61))⟩]
def f37b16 : AQ := (.seq (.region f37r15) f37b14)
def f37l17 : AQ := .loop [1, 60, 61, 62] [1] f37b16
theorem uf37l17 (P ts os Q) : awl P f37l17 Q ts os = awl P (.loop [1, 60, 61, 62] [1] f37b16) Q ts os := id rfl
def f37b18 : AQ := (.block 2 f37l17)
def f37r19 : List AI := [⟨none, (.faddr 59 1 (.t 1))⟩, ⟨none, (.load 60 1 false (.t 59))⟩, ⟨none, (.len 61 (.t 60))⟩, ⟨none, (.mov 62 (.v (.k (.c (.int .i64 0)))))⟩]
def f37b20 : AQ := (.seq (.region f37r19) f37b18)
def f37b21 : AQ := (.seq f37b20 f37b2)
def f37r22 : List AI := [⟨none, (.bin 58 .add (.t 51) (.v (.k (.c (.int .i64 1)))))⟩, ⟨none, (.mov 51 (.t 58))⟩]
def f37r23 : List AI := [⟨none, (.mov 2 (.v (.k (.c (.bool false)))))⟩]
def f37b24 : AQ := (.seq (.region f37r23) .ret)
def f37b25 : AQ := (.cond (.t 57) f37b24 .skip)
def f37r26 : List AI := [⟨none, (.mov 55 (.t 4))⟩, ⟨none, (.lenS 56 (.t 55))⟩, ⟨none, (.bin 57 .neq (.t 56) (.v (.k (.c (.int .i64 16)))))⟩]
def f37b27 : AQ := (.seq (.region f37r26) f37b25)
def f37r28 : List AI := [⟨none, (.iaddr 53 1 (.t 49) (.t 51))⟩, ⟨none, (.load 54 1 false (.t 53))⟩, ⟨none, (.mov 4 (.t 54))⟩]
def f37b29 : AQ := (.seq (.region f37r28) f37b27)
def f37b30 : AQ := (.block 1 f37b29)
def f37b31 : AQ := (.seq f37b30 (.region f37r22))
def f37b32 : AQ := (.cond (.t 52) .skip (.exit 0))
def f37b33 : AQ := (.seq f37b32 f37b31)
def f37r34 : List AI := [⟨none, (.bin 52 .lss (.t 51) (.t 50))⟩]
def f37b35 : AQ := (.seq (.region f37r34) f37b33)
def f37l36 : AQ := .loop [1, 49, 50, 51] [1] f37b35
theorem uf37l36 (P ts os Q) : awl P f37l36 Q ts os = awl P (.loop [1, 49, 50, 51] [1] f37b35) Q ts os := id rfl
def f37b37 : AQ := (.block 0 f37l36)
def f37r38 : List AI := [⟨none, (.faddr 48 0 (.t 1))⟩, ⟨none, (.load 49 1 false (.t 48))⟩, ⟨none, (.len 50 (.t 49))⟩, ⟨none, (.mov 51 (.v (.k (.c (.int .i64 0)))))⟩]
def f37b39 : AQ := (.seq (.region f37r38) f37b37)
def f37b40 : AQ := (.seq f37b39 f37b21)
def f37r41 : List AI := [⟨none, (.mov 2 (.v (.k (.c (.bool false)))))⟩]
def f37b42 : AQ := (.seq (.region f37r41) .ret)
def f37b43 : AQ := (.cond (.t 47) f37b42 .skip)
def f37r44 : List AI := [⟨none, (.faddr 7 0 (.t 1))⟩, ⟨none, (.load 8 1 false (.t 7))⟩, ⟨none, (.len 9 (.t 8))⟩, ⟨none, (.bin 10 .lss (.t 9) (.v (.k (.c (.int .i64 1)))))⟩, ⟨none, (.mov 11 (.t 10))⟩, ⟨(some (11, false)), (.faddr 12 0 (.t 1))⟩, ⟨(some (11, false)), (.load 13 1 false (.t 12))⟩, ⟨(some (11, false)), (.len 14 (.t 13))⟩, ⟨(some (11, false)), (.bin 15 .gtr (.t 14) (.v (.k (.c (.int .i64 512)))))⟩, ⟨none, (.pick 16 (.t 11) (.v (.k (.c (.bool true)))) (.t 15))⟩, ⟨none, (.mov 17 (.t 16))⟩, ⟨(some (17, false)), (.faddr 18 1 (.t 1))⟩, ⟨(some (17, false)), (.load 19 1 false (.t 18))⟩, ⟨(some (17, false)), (.len 20 (.t 19))⟩, ⟨(some (17, false)), (.bin 21 .gtr (.t 20) (.v (.k (.c (.int .i64 512)))))⟩, ⟨none, (.pick 22 (.t 17) (.v (.k (.c (.bool true)))) (.t 21))⟩, ⟨none, (.mov 23 (.t 22))⟩, ⟨(some (23, false)), (.faddr 24 2 (.t 1))⟩, ⟨(some (23, false)), (.load 25 1 false (.t 24))⟩, ⟨(some (23, false)), (.bin 26 .lss (.t 25) (.v (.k (.c (.int .i64 (-1))))))⟩, ⟨none, (.pick 27 (.t 23) (.v (.k (.c (.bool true)))) (.t 26))⟩, ⟨none, (.mov 28 (.t 27))⟩, ⟨(some (28, false)), (.faddr 29 2 (.t 1))⟩, ⟨(some (28, false)), (.load 30 1 false (.t 29))⟩, ⟨(some (28, false)), (.bin 31 .gtr (.t 30) (.v (.k (.c (.int .i64 512)))))⟩, ⟨none, (.pick 32 (.t 28) (.v (.k (.c (.bool true)))) (.t 31))⟩, ⟨none, (.mov 33 (.t 32))⟩, ⟨(some (33, false)), (.faddr 34 3 (.t 1))⟩, ⟨(some (33, false)), (.load 35 1 false (.t 34))⟩, ⟨(some (33, false)), (.mov 36 (.t 35))⟩, ⟨(some (36, true)), (.faddr 37 1 (.t 1))⟩, ⟨(some (36, true)), (.load 38 1 false (.t 37))⟩, ⟨(some (36, true)), (.len 39 (.t 38))⟩, ⟨(some (36, true)), (.bin 40 .gtr (.t 39) (.v (.k (.c (.int .i64 0)))))⟩, ⟨(some (36, true)), (.mov 41 (.t 40))⟩, ⟨(some (41, false)), (.faddr 42 2 (.t 1))⟩, ⟨(some (41, false)), (.load 43 1 false (.t 42))⟩, ⟨(some (41, false)), (.bin 44 .neq (.t 43) (.v (.k (.c (.int .i64 (-1))))))⟩, ⟨(some (36, true)), (.pick 45 (.t 41) (.v (.k (.c (.bool true)))) (.t 44))⟩, ⟨(some (33, false)), (.pick 46 (.t 36) (.t 45) (.v (.k (.c (.bool false)))))⟩, ⟨none, (.pick 47 (.t 33) (.v (.k (.c (.bool true)))) (.t 46))⟩]
def f37b45 : AQ := (.seq (.region f37r44) f37b43)
def f37b46 : AQ := (.seq f37b45 f37b40)
def f37r47 : List AI := [⟨none, (.box 1 27 (.t 0))⟩, ⟨none, (.mov 2 (.v (.k (.c (.bool false)))))⟩]
def f37b48 : AQ := (.seq (.region f37r47) f37b46)
def f37 : AQ := f37b48
theorem hf37 : cFunc Tryd.prog 37 = some ⟨84, f37.erase, [(RX.t 2)]⟩ := by kernel_rfl
theorem okf37 : f37.ok = true := by kernel_rfl
def f38r1 : List AI := [⟨none, (.mov 12 (.t 3))⟩, ⟨none, (.mov 2 (.t 12))⟩]
def f38b2 : AQ := (.seq (.region f38r1) .ret)
def f38r3 : List AI := [⟨none, (.mov 2 (.v (.k (.c (.int .i64 8)))))⟩]
def f38b4 : AQ := (.seq (.region f38r3) .ret)
def f38b5 : AQ := (.cond (.t 11) f38b4 .skip)
def f38r6 : List AI := [⟨none, (.mov 6 (.t 3))⟩, ⟨none, (.bin 7 .eql (.t 6) (.v (.k (.c (.int .i64 0)))))⟩, ⟨none, (.mov 8 (.t 7))⟩, ⟨(some (8, true)), (.faddr 9 3 (.t 1))⟩, ⟨(some (8, true)), (.load 10 1 false (.t 9))⟩, ⟨none, (.pick 11 (.t 8) (.t 10) (.v (.k (.c (.bool false)))))⟩]
def f38b7 : AQ := (.seq (.region f38r6) f38b5)
def f38b8 : AQ := (.seq f38b7 f38b2)
def f38r9 : List AI := [⟨none, (.load 4 4 true (.t 1))⟩, ⟨none, (.call (some 5) 39 [(.t 4)])⟩, ⟨none, (.mov 3 (.t 5))⟩]
def f38b10 : AQ := (.seq (.region f38r9) f38b8)
def f38r11 : List AI := [⟨none, (.box 1 27 (.t 0))⟩, ⟨none, (.mov 2 (.v (.k (.c (.int .i64 0)))))⟩]
def f38b12 : AQ := (.seq (.region f38r11) f38b10)
def f38 : AQ := f38b12
theorem hf38 : cFunc Tryd.prog 38 = some ⟨13, f38.erase, [(RX.t 2)]⟩ := by kernel_rfl
theorem okf38 : f38.ok = true := by kernel_rfl
def f39r1 : List AI := [⟨none, (.mov 2 (.v (.k (.c (.int .i64 0)))))⟩]
def f39b2 : AQ := (.seq (.region f39r1) .ret)
def f39r3 : List AI := [⟨none, (.mov 2 (.v (.k (.c (.int .i64 1)))))⟩]
def f39b4 : AQ := (.seq (.region f39r3) .ret)
def f39b5 : AQ := (.cond (.t 87) f39b4 .skip)
def f39r6 : List AI := [⟨none, (.faddr 75 3 (.t 1))⟩, ⟨none, (.load 76 1 false (.t 75))⟩, ⟨none, (.mov 77 (.t 76))⟩, ⟨(some (77, true)), (.faddr 78 1 (.t 1))⟩, ⟨(some (77, true)), (.load 79 1 false (.t 78))⟩, ⟨(some (77, true)), (.len 80 (.t 79))⟩, ⟨(some (77, true)), (.bin 81 .gtr (.t 80) (.v (.k (.c (.int .i64 0)))))⟩, ⟨(some (77, true)), (.mov 82 (.t 81))⟩, ⟨(some (82, false)), (.faddr 83 2 (.t 1))⟩, ⟨(some (82, false)), (.load 84 1 false (.t 83))⟩, ⟨(some (82, false)), (.bin 85 .neq (.t 84) (.v (.k (.c (.int .i64 (-1))))))⟩, ⟨(some (77, true)), (.pick 86 (.t 82) (.v (.k (.c (.bool true)))) (.t 85))⟩, ⟨none, (.pick 87 (.t 77) (.t 86) (.v (.k (.c (.bool false)))))⟩]
def f39b7 : AQ := (.seq (.region f39r6) f39b5)
def f39b8 : AQ := (.seq f39b7 f39b2)
def f39r9 : List AI := [⟨none, (.mov 51 (.t 4))⟩, ⟨none, (.bin 52 .add (.t 51) (.v (.k (.c (.int .i64 1)))))⟩, ⟨none, (.mov 4 (.t 52))⟩]
def f39r10 : List AI := [⟨none, (.mov 2 (.v (.k (.c (.int .i64 1)))))⟩]
def f39b11 : AQ := (.seq (.region f39r10) .ret)
def f39b12 : AQ := (.cond (.t 74) f39b11 .skip)
def f39r13 : List AI := [⟨none, (.faddr 58 0 (.t 5))⟩, ⟨none, (.load 59 1 false (.t 58))⟩, ⟨none, (.bin 60 .lss (.t 59) (.v (.k (.c (.int .i64 0)))))⟩, ⟨none, (.mov 61 (.t 60))⟩, ⟨(some (61, false)), (.faddr 62 0 (.t 5))⟩, ⟨(some (61, false)), (.load 63 1 false (.t 62))⟩, ⟨(some (61, false)), (.faddr 64 0 (.t 1))⟩, ⟨(some (61, false)), (.load 65 1 false (.t 64))⟩, ⟨(some (61, false)), (.len 66 (.t 65))⟩, ⟨(some (61, false)), (.bin 67 .geq (.t 63) (.t 66))⟩, ⟨none, (.pick 68 (.t 61) (.v (.k (.c (.bool true)))) (.t 67))⟩, ⟨none, (.mov 69 (.t 68))⟩, ⟨(some (69, false)), (.faddr 70 1 (.t 5))⟩, ⟨(some (69, false)), (.load 71 1 false (.t 70))⟩, ⟨(some (69, false)), (.lenS 72 (.t 71))⟩, ⟨(some (69, false)), (.bin 73 .neq (.t 72) (.v (.k (.c (.int .i64 16)))))⟩, ⟨none, (.pick 74 (.t 69) (.v (.k (.c (.bool true)))) (.t 73))⟩]
def f39b14 : AQ := (.seq (.region f39r13) f39b12)
def f39r15 : List AI := [⟨none, (.faddr 53 1 (.t 1))⟩, ⟨none, (.load 54 1 false (.t 53))⟩, ⟨none, (.mov 55 (.t 4))⟩, ⟨none, (.iaddr 56 2 (.t 54) (.t 55))⟩, ⟨none, (.load 57 2 true (.t 56))⟩, ⟨none, (.alloc 5 67 [(.int .i64 0), (.str [])])⟩, ⟨none, (.store 2 (.t 5) (.t 57))⟩]
def f39b16 : AQ := (.seq (.region f39r15) f39b14)
def f39b17 : AQ := (.block 3 f39b16)
def f39b18 : AQ := (.seq f39b17 (.region f39r9))
def f39b19 : AQ := (.cond (.t 50) .skip (.exit 2))
def f39r20 : List AI := [⟨none, (.mov 46 (.t 4))⟩, ⟨none, (.faddr 47 1 (.t 1))⟩, ⟨none, (.load 48 1 false (.t 47))⟩, ⟨none, (.len 49 (.t 48))⟩, ⟨none, (.bin 50 .lss (.t 46) (.t 49))⟩]
def f39b21 : AQ := (.seq (.region f39r20) f39b19)
def f39b22 : AQ := (.seq f39b21 f39b18)
def f39l23 : AQ := .loop [1, 4] [1] f39b22
theorem uf39l23 (P ts os Q) : awl P f39l23 Q ts os = awl P (.loop [1, 4] [1] f39b22) Q ts os := id rfl
def f39b24 : AQ := (.block 2 f39l23)
def f39r25 : List AI := [⟨none, (.mov 4 (.v (.k (.c (.int .i64 0)))))⟩]
def f39b26 : AQ := (.seq (.region f39r25) f39b24)
def f39b27 : AQ := (.seq f39b26 f39b8)
def f39r28 : List AI := [⟨none, (.mov 37 (.t 3))⟩, ⟨none, (.bin 38 .add (.t 37) (.v (.k (.c (.int .i64 1)))))⟩, ⟨none, (.mov 3 (.t 38))⟩]
def f39r29 : List AI := [⟨none, (.mov 2 (.v (.k (.c (.int .i64 1)))))⟩]
def f39b30 : AQ := (.seq (.region f39r29) .ret)
def f39b31 : AQ := (.cond (.t 45) f39b30 .skip)
def f39r32 : List AI := [⟨none, (.faddr 39 0 (.t 1))⟩, ⟨none, (.load 40 1 false (.t 39))⟩, ⟨none, (.mov 41 (.t 3))⟩, ⟨none, (.iaddr 42 1 (.t 40) (.t 41))⟩, ⟨none, (.load 43 1 false (.t 42))⟩, ⟨none, (.lenS 44 (.t 43))⟩, ⟨none, (.bin 45 .neq (.t 44) (.v (.k (.c (.int .i64 16)))))⟩]
def f39b33 : AQ := (.seq (.region f39r32) f39b31)
def f39b34 : AQ := (.block 1 f39b33)
def f39b35 : AQ := (.seq f39b34 (.region f39r28))
def f39b36 : AQ := (.cond (.t 36) .skip (.exit 0))
def f39r37 : List AI := [⟨none, (.mov 32 (.t 3))⟩, ⟨none, (.faddr 33 0 (.t 1))⟩, ⟨none, (.load 34 1 false (.t 33))⟩, ⟨none, (.len 35 (.t 34))⟩, ⟨none, (.bin 36 .lss (.t 32) (.t 35))⟩]
def f39b38 : AQ := (.seq (.region f39r37) f39b36)
def f39b39 : AQ := (.seq f39b38 f39b35)
def f39l40 : AQ := .loop [1, 3] [1] f39b39
theorem uf39l40 (P ts os Q) : awl P f39l40 Q ts os = awl P (.loop [1, 3] [1] f39b39) Q ts os := id rfl
def f39b41 : AQ := (.block 0 f39l40)
def f39r42 : List AI := [⟨none, (.mov 3 (.v (.k (.c (.int .i64 0)))))⟩]
def f39b43 : AQ := (.seq (.region f39r42) f39b41)
def f39b44 : AQ := (.seq f39b43 f39b27)
def f39r45 : List AI := [⟨none, (.mov 2 (.v (.k (.c (.int .i64 1)))))⟩]
def f39b46 : AQ := (.seq (.region f39r45) .ret)
def f39b47 : AQ := (.cond (.t 31) f39b46 .skip)
def f39r48 : List AI := [⟨none, (.faddr 6 0 (.t 1))⟩, ⟨none, (.load 7 1 false (.t 6))⟩, ⟨none, (.len 8 (.t 7))⟩, ⟨none, (.bin 9 .lss (.t 8) (.v (.k (.c (.int .i64 1)))))⟩, ⟨none, (.mov 10 (.t 9))⟩, ⟨(some (10, false)), (.faddr 11 0 (.t 1))⟩, ⟨(some (10, false)), (.load 12 1 false (.t 11))⟩, ⟨(some (10, false)), (.len 13 (.t 12))⟩, ⟨(some (10, false)), (.bin 14 .gtr (.t 13) (.v (.k (.c (.int .i64 512)))))⟩, ⟨none, (.pick 15 (.t 10) (.v (.k (.c (.bool true)))) (.t 14))⟩, ⟨none, (.mov 16 (.t 15))⟩, ⟨(some (16, false)), (.faddr 17 1 (.t 1))⟩, ⟨(some (16, false)), (.load 18 1 false (.t 17))⟩, ⟨(some (16, false)), (.len 19 (.t 18))⟩, ⟨(some (16, false)), (.bin 20 .gtr (.t 19) (.v (.k (.c (.int .i64 512)))))⟩, ⟨none, (.pick 21 (.t 16) (.v (.k (.c (.bool true)))) (.t 20))⟩, ⟨none, (.mov 22 (.t 21))⟩, ⟨(some (22, false)), (.faddr 23 2 (.t 1))⟩, ⟨(some (22, false)), (.load 24 1 false (.t 23))⟩, ⟨(some (22, false)), (.bin 25 .lss (.t 24) (.v (.k (.c (.int .i64 (-1))))))⟩, ⟨none, (.pick 26 (.t 22) (.v (.k (.c (.bool true)))) (.t 25))⟩, ⟨none, (.mov 27 (.t 26))⟩, ⟨(some (27, false)), (.faddr 28 2 (.t 1))⟩, ⟨(some (27, false)), (.load 29 1 false (.t 28))⟩, ⟨(some (27, false)), (.bin 30 .gtr (.t 29) (.v (.k (.c (.int .i64 512)))))⟩, ⟨none, (.pick 31 (.t 27) (.v (.k (.c (.bool true)))) (.t 30))⟩]
def f39b49 : AQ := (.seq (.region f39r48) f39b47)
def f39b50 : AQ := (.seq f39b49 f39b44)
def f39r51 : List AI := [⟨none, (.box 1 27 (.t 0))⟩, ⟨none, (.mov 2 (.v (.k (.c (.int .i64 0)))))⟩]
def f39b52 : AQ := (.seq (.region f39r51) f39b50)
def f39 : AQ := f39b52
theorem hf39 : cFunc Tryd.prog 39 = some ⟨88, f39.erase, [(RX.t 2)]⟩ := by kernel_rfl
theorem okf39 : f39.ok = true := by kernel_rfl
def f40r1 : List AI := [⟨none, (.mov 33 (.t 4))⟩, ⟨none, (.mov 2 (.t 33))⟩, ⟨none, (.mov 3 (.v (.k (.c (.bool true)))))⟩]
def f40b2 : AQ := (.seq (.region f40r1) .ret)
def f40r3 : List AI := [⟨none, (.bin 32 .add (.t 11) (.v (.k (.c (.int .i64 1)))))⟩, ⟨none, (.mov 11 (.t 32))⟩]
def f40r4 : List AI := [⟨none, (.mov 24 (.t 4))⟩, ⟨none, (.bin 25 .mul (.v (.k (.c (.int .i64 10)))) (.t 24))⟩, ⟨none, (.mov 26 (.t 0))⟩, ⟨none, (.mov 27 (.t 5))⟩, ⟨none, (.sidx 28 (.t 26) (.t 27))⟩, ⟨none, (.bin 29 .sub (.t 28) (.v (.k (.c (.int .u8 48)))))⟩, ⟨none, (.conv 30 .i64 (.t 29))⟩, ⟨none, (.bin 31 .add (.t 25) (.t 30))⟩, ⟨none, (.mov 4 (.t 31))⟩]
def f40r5 : List AI := [⟨none, (.mov 2 (.v (.k (.c (.int .i64 0)))))⟩, ⟨none, (.mov 3 (.v (.k (.c (.bool false)))))⟩]
def f40b6 : AQ := (.seq (.region f40r5) .ret)
def f40b7 : AQ := (.cond (.t 23) f40b6 .skip)
def f40r8 : List AI := [⟨none, (.mov 14 (.t 0))⟩, ⟨none, (.mov 15 (.t 5))⟩, ⟨none, (.sidx 16 (.t 14) (.t 15))⟩, ⟨none, (.bin 17 .lss (.t 16) (.v (.k (.c (.int .u8 48)))))⟩, ⟨none, (.mov 18 (.t 17))⟩, ⟨(some (18, false)), (.mov 19 (.t 0))⟩, ⟨(some (18, false)), (.mov 20 (.t 5))⟩, ⟨(some (18, false)), (.sidx 21 (.t 19) (.t 20))⟩, ⟨(some (18, false)), (.bin 22 .gtr (.t 21) (.v (.k (.c (.int .u8 57)))))⟩, ⟨none, (.pick 23 (.t 18) (.v (.k (.c (.bool true)))) (.t 22))⟩]
def f40b9 : AQ := (.seq (.region f40r8) f40b7)
def f40b10 : AQ := (.seq f40b9 (.region f40r4))
def f40r11 : List AI := [⟨none, (.mov 13 (.t 11))⟩, ⟨none, (.mov 5 (.t 13))⟩]
def f40b12 : AQ := (.seq (.region f40r11) f40b10)
def f40b13 : AQ := (.block 1 f40b12)
def f40b14 : AQ := (.seq f40b13 (.region f40r3))
def f40b15 : AQ := (.cond (.t 12) .skip (.exit 0))
def f40b16 : AQ := (.seq f40b15 f40b14)
def f40r17 : List AI := [⟨none, (.bin 12 .lss (.t 11) (.v (.k (.c (.int .i64 8)))))⟩]
def f40b18 : AQ := (.seq (.region f40r17) f40b16)
def f40l19 : AQ := .loop [0, 4, 11] [] f40b18
theorem uf40l19 (P ts os Q) : awl P f40l19 Q ts os = awl P (.loop [0, 4, 11] [] f40b18) Q ts os := id rfl
def f40b20 : AQ := (.block 0 f40l19)
def f40r21 : List AI := [⟨none, (.mov 11 (.v (.k (.c (.int .i64 0)))))⟩]
def f40b22 : AQ := (.seq (.region f40r21) f40b20)
def f40b23 : AQ := (.seq f40b22 f40b2)
def f40r24 : List AI := [⟨none, (.mov 4 (.v (.k (.c (.int .i64 0)))))⟩]
def f40b25 : AQ := (.seq (.region f40r24) f40b23)
def f40r26 : List AI := [⟨none, (.mov 2 (.v (.k (.c (.int .i64 0)))))⟩, ⟨none, (.mov 3 (.v (.k (.c (.bool false)))))⟩]
def f40b27 : AQ := (.seq (.region f40r26) .ret)
def f40b28 : AQ := (.cond (.t 10) f40b27 .skip)
def f40r29 : List AI := [⟨none, (.mov 6 (.t 0))⟩, ⟨none, (.slstr 7 (.t 6) none (some (.v (.k (.c (.int .i64 8))))))⟩, ⟨none, (.mov 8 (.t 0))⟩, ⟨none, (.slstr 9 (.t 8) (some (.v (.k (.c (.int .i64 8))))) none)⟩, ⟨none, (.bin 10 .neq (.t 7) (.t 9))⟩]
def f40b30 : AQ := (.seq (.draw f40r29 [[], [0], [], [2], [1, 3]]) f40b28)
def f40b31 : AQ := (.seq f40b30 f40b25)
def f40r32 : List AI := [⟨none, (.mov 2 (.v (.k (.c (.int .i64 0)))))⟩, ⟨none, (.mov 3 (.v (.k (.c (.bool false)))))⟩]
def f40b33 : AQ := (.seq (.region f40r32) f40b31)
def f40 : AQ := f40b33
theorem hf40 : cFunc Tryd.prog 40 = some ⟨34, f40.erase, [(RX.t 2), (RX.t 3)]⟩ := by kernel_rfl
theorem okf40 : f40.ok = true := by kernel_rfl
def f42r1 : List AI := [⟨none, (.mov 24 (.t 3))⟩, ⟨none, (.mov 25 (.t 5))⟩, ⟨none, (.slstr 26 (.t 24) none (some (.t 25)))⟩, ⟨none, (.mov 27 (.t 3))⟩, ⟨none, (.mov 28 (.t 5))⟩, ⟨none, (.slstr 29 (.t 27) (some (.t 28)) none)⟩, ⟨none, (.mov 2 (.t 26))⟩, ⟨none, (.mov 3 (.t 29))⟩, ⟨none, (.mov 4 (.v (.k (.c (.bool true)))))⟩]
def f42b2 : AQ := (.seq (.draw f42r1 [[], [], [0, 1], [], [], [3, 4], [2, 0, 1, 2], [5, 6, 0, 1, 2, 3, 4, 5, 6], [7, 0, 1, 2, 3, 4, 5, 6, 7]]) .ret)
def f42r3 : List AI := [⟨none, (.mov 2 (.v (.k (.c (.str [])))))⟩, ⟨none, (.mov 3 (.v (.k (.c (.str [])))))⟩, ⟨none, (.mov 4 (.v (.k (.c (.bool false)))))⟩]
def f42b4 : AQ := (.seq (.region f42r3) .ret)
def f42b5 : AQ := (.cond (.t 23) f42b4 .skip)
def f42r6 : List AI := [⟨none, (.mov 12 (.t 4))⟩, ⟨none, (.un 13 .not (.t 12))⟩, ⟨none, (.mov 14 (.t 13))⟩, ⟨(some (14, false)), (.mov 15 (.t 5))⟩, ⟨(some (14, false)), (.bin 16 .lss (.t 15) (.v (.k (.c (.int .i64 0)))))⟩, ⟨none, (.pick 17 (.t 14) (.v (.k (.c (.bool true)))) (.t 16))⟩, ⟨none, (.mov 18 (.t 17))⟩, ⟨(some (18, false)), (.mov 19 (.t 5))⟩, ⟨(some (18, false)), (.mov 20 (.t 3))⟩, ⟨(some (18, false)), (.lenS 21 (.t 20))⟩, ⟨(some (18, false)), (.bin 22 .gtr (.t 19) (.t 21))⟩, ⟨none, (.pick 23 (.t 18) (.v (.k (.c (.bool true)))) (.t 22))⟩]
def f42b7 : AQ := (.seq (.region f42r6) f42b5)
def f42b8 : AQ := (.seq f42b7 f42b2)
def f42r9 : List AI := [⟨none, (.mov 7 (.t 0))⟩, ⟨none, (.call (some 8) 50 [(.t 7)])⟩, ⟨none, (.mov 6 (.t 8))⟩, ⟨none, (.extr 9 (.t 6) 0)⟩, ⟨none, (.extr 10 (.t 6) 1)⟩, ⟨none, (.extr 11 (.t 6) 2)⟩, ⟨none, (.mov 5 (.t 9))⟩, ⟨none, (.mov 3 (.t 10))⟩, ⟨none, (.mov 4 (.t 11))⟩]
def f42b10 : AQ := (.seq (.region f42r9) f42b8)
def f42r11 : List AI := [⟨none, (.mov 2 (.v (.k (.c (.str [])))))⟩, ⟨none, (.mov 3 (.v (.k (.c (.str [])))))⟩, ⟨none, (.mov 4 (.v (.k (.c (.bool false)))))⟩]
def f42b12 : AQ := (.seq (.region f42r11) f42b10)
def f42 : AQ := f42b12
theorem hf42 : cFunc Tryd.prog 42 = some ⟨30, f42.erase, [(RX.t 2), (RX.t 3), (RX.t 4)]⟩ := by kernel_rfl
theorem okf42 : f42.ok = true := by kernel_rfl
def f45r1 : List AI := [⟨none, (.mov 2 (.v (.k (.c (.int .i64 0)))))⟩]
def f45b2 : AQ := (.seq (.region f45r1) .ret)
def f45r3 : List AI := [⟨none, (.mov 2 (.v (.k (.c (.int .i64 1)))))⟩]
def f45b4 : AQ := (.seq (.region f45r3) .ret)
def f45b5 : AQ := (.cond (.t 5) f45b4 .skip)
def f45r6 : List AI := [⟨none, (.load 3 4 true (.t 1))⟩, ⟨none, (.call (some 4) 37 [(.t 3)])⟩, ⟨none, (.un 5 .not (.t 4))⟩]
def f45b7 : AQ := (.seq (.region f45r6) f45b5)
def f45b8 : AQ := (.seq f45b7 f45b2)
def f45r9 : List AI := [⟨none, (.box 1 27 (.t 0))⟩, ⟨none, (.mov 2 (.v (.k (.c (.int .i64 0)))))⟩]
def f45b10 : AQ := (.seq (.region f45r9) f45b8)
def f45 : AQ := f45b10
theorem hf45 : cFunc Tryd.prog 45 = some ⟨6, f45.erase, [(RX.t 2)]⟩ := by kernel_rfl
theorem okf45 : f45.ok = true := by kernel_rfl
def f51r1 : List AI := [⟨none, (.mov 28 (.t 8))⟩, ⟨none, (.mov 29 (.t 9))⟩, ⟨none, (.mov 4 (.t 28))⟩, ⟨none, (.mov 5 (.t 29))⟩]
def f51b2 : AQ := (.seq (.region f51r1) .ret)
def f51r3 : List AI := [⟨none, (.mov 23 (.t 0))⟩, ⟨none, (.mov 24 (.t 1))⟩, ⟨none, (.call (some 25) 60 [(.t 23), (.t 24)])⟩, ⟨none, (.mov 22 (.t 25))⟩, ⟨none, (.extr 26 (.t 22) 0)⟩, ⟨none, (.extr 27 (.t 22) 1)⟩, ⟨none, (.mov 8 (.t 26))⟩, ⟨none, (.mov 9 (.t 27))⟩]
def f51b4 : AQ := (.seq (.region f51r3) f51b2)
def f51r5 : List AI := [⟨none, (.mov 18 (.t 6))⟩, ⟨none, (.conv 19 .u64 (.t 18))⟩, ⟨none, (.mov 20 (.t 7))⟩, ⟨none, (.conv 21 .u64 (.t 20))⟩, ⟨none, (.mov 4 (.t 19))⟩, ⟨none, (.mov 5 (.t 21))⟩]
def f51b6 : AQ := (.seq (.region f51r5) .ret)
def f51r7 : List AI := [⟨none, (.mov 11 (.t 0))⟩, ⟨none, (.conv 12 .u32 (.t 11))⟩, ⟨none, (.mov 13 (.t 1))⟩, ⟨none, (.conv 14 .u32 (.t 13))⟩, ⟨none, (.call (some 15) 59 [(.t 12), (.t 14)])⟩, ⟨none, (.mov 10 (.t 15))⟩, ⟨none, (.extr 16 (.t 10) 0)⟩, ⟨none, (.extr 17 (.t 10) 1)⟩, ⟨none, (.mov 6 (.t 16))⟩, ⟨none, (.mov 7 (.t 17))⟩]
def f51b8 : AQ := (.seq (.region f51r7) f51b6)
def f51b9 : AQ := (.cond (.v (.k (.c (.bool false)))) f51b8 .skip)
def f51b10 : AQ := (.seq f51b9 f51b4)
def f51r11 : List AI := [⟨none, (.mov 4 (.v (.k (.c (.int .u64 0)))))⟩, ⟨none, (.mov 5 (.v (.k (.c (.int .u64 0)))))⟩]
def f51b12 : AQ := (.seq (.region f51r11) f51b10)
def f51 : AQ := f51b12
theorem hf51 : cFunc Tryd.prog 51 = some ⟨30, f51.erase, [(RX.t 4), (RX.t 5)]⟩ := by kernel_rfl
theorem okf51 : f51.ok = true := by kernel_rfl
def f52r1 : List AI := [⟨none, (.mov 5 (.t 0))⟩, ⟨none, (.mov 6 (.t 1))⟩, ⟨none, (.call (some 7) 61 [(.t 5), (.t 6)])⟩, ⟨none, (.mov 4 (.t 7))⟩]
def f52b2 : AQ := (.seq (.region f52r1) .ret)
def f52r3 : List AI := [⟨none, (.mov 4 (.v (.k (.c (.bool false)))))⟩]
def f52b4 : AQ := (.seq (.region f52r3) f52b2)
def f52 : AQ := f52b4
theorem hf52 : cFunc Tryd.prog 52 = some ⟨8, f52.erase, [(RX.t 4)]⟩ := by kernel_rfl
theorem okf52 : f52.ok = true := by kernel_rfl
def f60r1 : List AI := [⟨none, (.mov 48 (.t 0))⟩, ⟨none, (.mov 49 (.t 1))⟩, ⟨none, (.bin 50 .mul (.t 48) (.t 49))⟩, ⟨none, (.mov 5 (.t 50))⟩]
def f60b2 : AQ := (.seq (.region f60r1) .ret)
def f60r3 : List AI := [⟨none, (.mov 40 (.t 7))⟩, ⟨none, (.mov 41 (.t 9))⟩, ⟨none, (.bin 42 .mul (.t 40) (.t 41))⟩, ⟨none, (.mov 43 (.t 13))⟩, ⟨none, (.bin 44 .add (.t 42) (.t 43))⟩, ⟨none, (.mov 45 (.t 12))⟩, ⟨none, (.bin 46 .shr (.t 45) (.v (.k (.c (.int .u64 32)))))⟩, ⟨none, (.bin 47 .add (.t 44) (.t 46))⟩, ⟨none, (.mov 4 (.t 47))⟩]
def f60b4 : AQ := (.seq (.region f60r3) f60b2)
def f60r5 : List AI := [⟨none, (.mov 35 (.t 12))⟩, ⟨none, (.mov 36 (.t 6))⟩, ⟨none, (.mov 37 (.t 9))⟩, ⟨none, (.bin 38 .mul (.t 36) (.t 37))⟩, ⟨none, (.bin 39 .add (.t 35) (.t 38))⟩, ⟨none, (.mov 12 (.t 39))⟩]
def f60b6 : AQ := (.seq (.region f60r5) f60b4)
def f60r7 : List AI := [⟨none, (.mov 33 (.t 11))⟩, ⟨none, (.bin 34 .shr (.t 33) (.v (.k (.c (.int .u64 32)))))⟩, ⟨none, (.mov 13 (.t 34))⟩]
def f60b8 : AQ := (.seq (.region f60r7) f60b6)
def f60r9 : List AI := [⟨none, (.mov 31 (.t 11))⟩, ⟨none, (.bin 32 .and (.t 31) (.v (.k (.c (.int .u64 4294967295)))))⟩, ⟨none, (.mov 12 (.t 32))⟩]
def f60b10 : AQ := (.seq (.region f60r9) f60b8)
def f60r11 : List AI := [⟨none, (.mov 25 (.t 7))⟩, ⟨none, (.mov 26 (.t 8))⟩, ⟨none, (.bin 27 .mul (.t 25) (.t 26))⟩, ⟨none, (.mov 28 (.t 10))⟩, ⟨none, (.bin 29 .shr (.t 28) (.v (.k (.c (.int .u64 32)))))⟩, ⟨none, (.bin 30 .add (.t 27) (.t 29))⟩, ⟨none, (.mov 11 (.t 30))⟩]
def f60b12 : AQ := (.seq (.region f60r11) f60b10)
def f60r13 : List AI := [⟨none, (.mov 22 (.t 6))⟩, ⟨none, (.mov 23 (.t 8))⟩, ⟨none, (.bin 24 .mul (.t 22) (.t 23))⟩, ⟨none, (.mov 10 (.t 24))⟩]
def f60b14 : AQ := (.seq (.region f60r13) f60b12)
def f60r15 : List AI := [⟨none, (.mov 20 (.t 1))⟩, ⟨none, (.bin 21 .shr (.t 20) (.v (.k (.c (.int .u64 32)))))⟩, ⟨none, (.mov 9 (.t 21))⟩]
def f60b16 : AQ := (.seq (.region f60r15) f60b14)
def f60r17 : List AI := [⟨none, (.mov 18 (.t 1))⟩, ⟨none, (.bin 19 .and (.t 18) (.v (.k (.c (.int .u64 4294967295)))))⟩, ⟨none, (.mov 8 (.t 19))⟩]
def f60b18 : AQ := (.seq (.region f60r17) f60b16)
def f60r19 : List AI := [⟨none, (.mov 16 (.t 0))⟩, ⟨none, (.bin 17 .shr (.t 16) (.v (.k (.c (.int .u64 32)))))⟩, ⟨none, (.mov 7 (.t 17))⟩]
def f60b20 : AQ := (.seq (.region f60r19) f60b18)
def f60r21 : List AI := [⟨none, (.mov 14 (.t 0))⟩, ⟨none, (.bin 15 .and (.t 14) (.v (.k (.c (.int .u64 4294967295)))))⟩, ⟨none, (.mov 6 (.t 15))⟩]
def f60b22 : AQ := (.seq (.region f60r21) f60b20)
def f60r23 : List AI := [⟨none, (.mov 4 (.v (.k (.c (.int .u64 0)))))⟩, ⟨none, (.mov 5 (.v (.k (.c (.int .u64 0)))))⟩]
def f60b24 : AQ := (.seq (.region f60r23) f60b22)
def f60 : AQ := f60b24
theorem hf60 : cFunc Tryd.prog 60 = some ⟨51, f60.erase, [(RX.t 4), (RX.t 5)]⟩ := by kernel_rfl
theorem okf60 : f60.ok = true := by kernel_rfl
def f61r1 : List AI := [⟨none, (.mov 5 (.t 0))⟩, ⟨none, (.lenS 6 (.t 5))⟩, ⟨none, (.mov 7 (.t 1))⟩, ⟨none, (.lenS 8 (.t 7))⟩, ⟨none, (.bin 9 .geq (.t 6) (.t 8))⟩, ⟨none, (.mov 10 (.t 9))⟩, ⟨(some (10, true)), (.mov 11 (.t 0))⟩, ⟨(some (10, true)), (.mov 12 (.t 1))⟩, ⟨(some (10, true)), (.lenS 13 (.t 12))⟩, ⟨(some (10, true)), (.slstr 14 (.t 11) none (some (.t 13)))⟩, ⟨(some (10, true)), (.mov 15 (.t 1))⟩, ⟨(some (10, true)), (.bin 16 .eql (.t 14) (.t 15))⟩, ⟨none, (.pick 17 (.t 10) (.t 16) (.v (.k (.c (.bool false)))))⟩, ⟨none, (.mov 4 (.t 17))⟩]
def f61b2 : AQ := (.seq (.region f61r1) .ret)
def f61r3 : List AI := [⟨none, (.mov 4 (.v (.k (.c (.bool false)))))⟩]
def f61b4 : AQ := (.seq (.region f61r3) f61b2)
def f61 : AQ := f61b4
theorem hf61 : cFunc Tryd.prog 61 = some ⟨18, f61.erase, [(RX.t 4)]⟩ := by kernel_rfl
theorem okf61 : f61.ok = true := by kernel_rfl
def f4r1 : List AI := [⟨none, (.mov 87 (.t 3))⟩, ⟨none, (.mov 88 (.t 87))⟩, ⟨(some (88, true)), (.mov 89 (.t 9))⟩, ⟨(some (88, true)), (.call (some 90) 15 [(.t 89)])⟩, ⟨(some (88, true)), (.bin 91 .geq (.t 90) (.v (.k (.c (.int .i64 0)))))⟩, ⟨none, (.pick 92 (.t 88) (.t 91) (.v (.k (.c (.bool false)))))⟩, ⟨none, (.mov 93 (.t 92))⟩, ⟨(some (93, true)), (.mov 94 (.t 9))⟩, ⟨(some (93, true)), (.call (some 95) 15 [(.t 94)])⟩, ⟨(some (93, true)), (.mov 96 (.t 6))⟩, ⟨(some (93, true)), (.lenS 97 (.t 96))⟩, ⟨(some (93, true)), (.bin 98 .leq (.t 95) (.t 97))⟩, ⟨none, (.pick 99 (.t 93) (.t 98) (.v (.k (.c (.bool false)))))⟩, ⟨none, (.mov 100 (.t 99))⟩, ⟨(some (100, true)), (.mov 101 (.t 10))⟩, ⟨(some (100, true)), (.call (some 102) 15 [(.t 101)])⟩, ⟨(some (100, true)), (.bin 103 .geq (.t 102) (.v (.k (.c (.int .i64 0)))))⟩, ⟨none, (.pick 104 (.t 100) (.t 103) (.v (.k (.c (.bool false)))))⟩, ⟨none, (.mov 105 (.t 104))⟩, ⟨(some (105, true)), (.mov 106 (.t 10))⟩, ⟨(some (105, true)), (.call (some 107) 15 [(.t 106)])⟩, ⟨(some (105, true)), (.mov 108 (.t 6))⟩, ⟨(some (105, true)), (.lenS 109 (.t 108))⟩, ⟨(some (105, true)), (.bin 110 .leq (.t 107) (.t 109))⟩, ⟨none, (.pick 111 (.t 105) (.t 110) (.v (.k (.c (.bool false)))))⟩, ⟨none, (.mov 2 (.t 111))⟩]
def f4b2 : AQ := (.seq (.region f4r1) .ret)
def f4r3 : List AI := [⟨none, (.mov 2 (.v (.k (.c (.bool false)))))⟩]
def f4b4 : AQ := (.seq (.region f4r3) .ret)
def f4b5 : AQ := (.cond (.t 86) f4b4 .skip)
def f4r6 : List AI := [⟨none, (.mov 79 (.t 9))⟩, ⟨none, (.mov 80 (.t 11))⟩, ⟨none, (.bin 81 .neq (.t 79) (.t 80))⟩, ⟨none, (.mov 82 (.t 81))⟩, ⟨(some (82, true)), (.mov 83 (.t 10))⟩, ⟨(some (82, true)), (.mov 84 (.t 11))⟩, ⟨(some (82, true)), (.bin 85 .neq (.t 83) (.t 84))⟩, ⟨none, (.pick 86 (.t 82) (.t 85) (.v (.k (.c (.bool false)))))⟩]
def f4b7 : AQ := (.seq (.region f4r6) f4b5)
def f4b8 : AQ := (.seq f4b7 f4b2)
def f4r9 : List AI := [⟨none, (.mov 76 (.t 6))⟩, ⟨none, (.lenS 77 (.t 76))⟩, ⟨none, (.call (some 78) 14 [(.t 77)])⟩, ⟨none, (.mov 11 (.t 78))⟩]
def f4b10 : AQ := (.seq (.region f4r9) f4b8)
def f4r11 : List AI := [⟨none, (.faddr 72 0 (.t 4))⟩, ⟨none, (.load 73 1 false (.t 72))⟩, ⟨none, (.iaddr 74 1 (.t 73) (.v (.k (.c (.int .i64 1)))))⟩, ⟨none, (.load 75 1 false (.t 74))⟩, ⟨none, (.mov 10 (.t 75))⟩]
def f4b12 : AQ := (.seq (.region f4r11) f4b10)
def f4r13 : List AI := [⟨none, (.faddr 68 0 (.t 4))⟩, ⟨none, (.load 69 1 false (.t 68))⟩, ⟨none, (.iaddr 70 1 (.t 69) (.v (.k (.c (.int .i64 0)))))⟩, ⟨none, (.load 71 1 false (.t 70))⟩, ⟨none, (.mov 9 (.t 71))⟩]
def f4b14 : AQ := (.seq (.region f4r13) f4b12)
def f4r15 : List AI := [⟨none, (.mov 2 (.v (.k (.c (.bool false)))))⟩]
def f4b16 : AQ := (.seq (.region f4r15) .ret)
def f4b17 : AQ := (.cond (.t 67) f4b16 .skip)
def f4r18 : List AI := [⟨none, (.mov 55 (.t 8))⟩, ⟨none, (.lenS 56 (.t 55))⟩, ⟨none, (.mov 57 (.t 6))⟩, ⟨none, (.lenS 58 (.t 57))⟩, ⟨none, (.bin 59 .lss (.t 56) (.t 58))⟩, ⟨none, (.mov 60 (.t 59))⟩, ⟨(some (60, false)), (.mov 61 (.t 8))⟩, ⟨(some (60, false)), (.mov 62 (.t 6))⟩, ⟨(some (60, false)), (.lenS 63 (.t 62))⟩, ⟨(some (60, false)), (.slstr 64 (.t 61) none (some (.t 63)))⟩, ⟨(some (60, false)), (.mov 65 (.t 6))⟩, ⟨(some (60, false)), (.bin 66 .neq (.t 64) (.t 65))⟩, ⟨none, (.pick 67 (.t 60) (.v (.k (.c (.bool true)))) (.t 66))⟩]
def f4b19 : AQ := (.seq (.region f4r18) f4b17)
def f4b20 : AQ := (.seq f4b19 f4b14)
def f4r21 : List AI := [⟨none, (.load 53 4 true (.t 4))⟩, ⟨none, (.call (some 54) 13 [(.t 53)])⟩, ⟨none, (.mov 8 (.t 54))⟩]
def f4b22 : AQ := (.seq (.region f4r21) f4b20)
def f4r23 : List AI := [⟨none, (.mov 44 (.t 7))⟩, ⟨none, (.bin 45 .add (.t 44) (.v (.k (.c (.int .i64 1)))))⟩, ⟨none, (.mov 7 (.t 45))⟩]
def f4r24 : List AI := [⟨none, (.mov 46 (.t 6))⟩, ⟨none, (.mov 47 (.t 0))⟩, ⟨none, (.mov 48 (.t 7))⟩, ⟨none, (.iaddr 49 1 (.t 47) (.t 48))⟩, ⟨none, (.load 50 1 false (.t 49))⟩, ⟨none, (.call (some 51) 12 [(.t 50)])⟩, ⟨none, (.bin 52 .add (.t 46) (.t 51))⟩, ⟨none, (.mov 6 (.t 52))⟩]
def f4b25 : AQ := (.block 1 (.region f4r24))
def f4b26 : AQ := (.seq f4b25 (.region f4r23))
def f4b27 : AQ := (.cond (.t 43) .skip (.exit 0))
def f4r28 : List AI := [⟨none, (.mov 40 (.t 7))⟩, ⟨none, (.mov 41 (.t 0))⟩, ⟨none, (.len 42 (.t 41))⟩, ⟨none, (.bin 43 .lss (.t 40) (.t 42))⟩]
def f4b29 : AQ := (.seq (.region f4r28) f4b27)
def f4b30 : AQ := (.seq f4b29 f4b26)
def f4l31 : AQ := .loop [0, 3, 4, 6, 7] [4, 19, 20000, 20001, 20002] f4b30
theorem uf4l31 (P ts os Q) : awl P f4l31 Q ts os = awl P (.loop [0, 3, 4, 6, 7] [4, 19, 20000, 20001, 20002] f4b30) Q ts os := id rfl
def f4b32 : AQ := (.block 0 f4l31)
def f4r33 : List AI := [⟨none, (.mov 7 (.v (.k (.c (.int .i64 0)))))⟩]
def f4b34 : AQ := (.seq (.region f4r33) f4b32)
def f4b35 : AQ := (.seq f4b34 f4b22)
def f4r36 : List AI := [⟨none, (.mov 6 (.v (.k (.c (.str [])))))⟩]
def f4b37 : AQ := (.seq (.region f4r36) f4b35)
def f4r38 : List AI := [⟨none, (.mov 2 (.v (.k (.c (.bool false)))))⟩]
def f4b39 : AQ := (.seq (.region f4r38) .ret)
def f4b40 : AQ := (.cond (.t 39) f4b39 .skip)
def f4r41 : List AI := [⟨none, (.mov 22 (.t 5))⟩, ⟨none, (.un 23 .not (.t 22))⟩, ⟨none, (.mov 24 (.t 23))⟩, ⟨(some (24, false)), (.faddr 25 0 (.t 4))⟩, ⟨(some (24, false)), (.load 26 1 false (.t 25))⟩, ⟨(some (24, false)), (.len 27 (.t 26))⟩, ⟨(some (24, false)), (.bin 28 .neq (.t 27) (.v (.k (.c (.int .i64 80)))))⟩, ⟨none, (.pick 29 (.t 24) (.v (.k (.c (.bool true)))) (.t 28))⟩, ⟨none, (.mov 30 (.t 29))⟩, ⟨(some (30, false)), (.faddr 31 1 (.t 4))⟩, ⟨(some (30, false)), (.load 32 1 false (.t 31))⟩, ⟨(some (30, false)), (.len 33 (.t 32))⟩, ⟨(some (30, false)), (.bin 34 .gtr (.t 33) (.v (.k (.c (.int .i64 0)))))⟩, ⟨none, (.pick 35 (.t 30) (.v (.k (.c (.bool true)))) (.t 34))⟩, ⟨none, (.mov 36 (.t 35))⟩, ⟨(some (36, false)), (.faddr 37 3 (.t 4))⟩, ⟨(some (36, false)), (.load 38 1 false (.t 37))⟩, ⟨none, (.pick 39 (.t 36) (.v (.k (.c (.bool true)))) (.t 38))⟩]
def f4b42 : AQ := (.seq (.region f4r41) f4b40)
def f4b43 : AQ := (.seq f4b42 f4b37)
def f4r44 : List AI := [⟨none, (.mov 18 (.t 0))⟩, ⟨none, (.call (some 19) 9 [(.v (.k (.c (.int .i64 80)))), (.t 18)])⟩, ⟨none, (.mov 17 (.t 19))⟩, ⟨none, (.extr 20 (.t 17) 0)⟩, ⟨none, (.extr 21 (.t 17) 1)⟩, ⟨none, (.alloc 4 27 [(.list 0 (some true) []), (.list 0 (some true) []), (.int .i64 0), (.bool false)])⟩, ⟨none, (.store 4 (.t 4) (.t 20))⟩, ⟨none, (.mov 5 (.t 21))⟩]
def f4b45 : AQ := (.seq (.region f4r44) f4b43)
def f4r46 : List AI := [⟨none, (.mov 16 (.t 3))⟩, ⟨none, (.mov 2 (.t 16))⟩]
def f4b47 : AQ := (.seq (.region f4r46) .ret)
def f4b48 : AQ := (.cond (.t 15) f4b47 .skip)
def f4r49 : List AI := [⟨none, (.mov 13 (.t 0))⟩, ⟨none, (.call (some 14) 8 [(.t 13), (.v (.k (.c (.int .i64 8))))])⟩, ⟨none, (.un 15 .not (.t 14))⟩]
def f4b50 : AQ := (.seq (.region f4r49) f4b48)
def f4b51 : AQ := (.seq f4b50 f4b45)
def f4r52 : List AI := [⟨none, (.call (some 12) 7 [])⟩, ⟨none, (.mov 3 (.t 12))⟩]
def f4b53 : AQ := (.seq (.region f4r52) f4b51)
def f4r54 : List AI := [⟨none, (.mov 2 (.v (.k (.c (.bool false)))))⟩]
def f4b55 : AQ := (.seq (.region f4r54) f4b53)
def f4 : AQ := f4b55
theorem hf4 : cFunc Tryd.prog 4 = some ⟨112, f4.erase, [(RX.t 2)]⟩ := by kernel_rfl
theorem okf4 : f4.ok = true := by kernel_rfl
def f7r1 : List AI := [⟨none, (.mov 131 (.t 25))⟩, ⟨none, (.mov 132 (.t 131))⟩, ⟨(some (132, true)), (.mov 133 (.t 11))⟩, ⟨(some (132, true)), (.bslice 134 9 1 [(.str [])] 2 [(0, (.v (.k (.c (.str [97, 98]))))), (1, (.v (.k (.c (.str [])))))])⟩, ⟨(some (132, true)), (.call (some 135) 21 [(.t 133), (.t 134)])⟩, ⟨none, (.pick 136 (.t 132) (.t 135) (.v (.k (.c (.bool false)))))⟩, ⟨none, (.mov 137 (.t 136))⟩, ⟨(some (137, true)), (.mov 138 (.t 13))⟩, ⟨(some (137, true)), (.bin 139 .eql (.t 138) (.v (.k (.c (.int .i64 2)))))⟩, ⟨none, (.pick 140 (.t 137) (.t 139) (.v (.k (.c (.bool false)))))⟩, ⟨none, (.mov 141 (.t 140))⟩, ⟨(some (141, true)), (.mov 142 (.t 21))⟩, ⟨(some (141, true)), (.mov 143 (.t 11))⟩, ⟨(some (141, true)), (.call (some 144) 21 [(.t 142), (.t 143)])⟩, ⟨none, (.pick 145 (.t 141) (.t 144) (.v (.k (.c (.bool false)))))⟩, ⟨none, (.mov 146 (.t 145))⟩, ⟨(some (146, true)), (.mov 147 (.t 23))⟩, ⟨(some (146, true)), (.bin 148 .eql (.t 147) (.v (.k (.c (.str [97, 98])))))⟩, ⟨none, (.pick 149 (.t 146) (.t 148) (.v (.k (.c (.bool false)))))⟩, ⟨none, (.mov 0 (.t 149))⟩]
def f7b2 : AQ := (.seq (.region f7r1) .ret)
def f7r3 : List AI := [⟨none, (.mov 85 (.t 2))⟩, ⟨none, (.bin 86 .eql (.t 85) (.v (.k (.c (.int .i64 0)))))⟩, ⟨none, (.mov 87 (.t 86))⟩, ⟨(some (87, true)), (.mov 88 (.t 4))⟩, ⟨(some (87, true)), (.bin 89 .eql (.t 88) (.v (.k (.c (.int .i64 22)))))⟩, ⟨none, (.pick 90 (.t 87) (.t 89) (.v (.k (.c (.bool false)))))⟩, ⟨none, (.mov 91 (.t 90))⟩, ⟨(some (91, true)), (.mov 92 (.t 6))⟩, ⟨(some (91, true)), (.bin 93 .eql (.t 92) (.v (.k (.c (.int .i64 0)))))⟩, ⟨none, (.pick 94 (.t 91) (.t 93) (.v (.k (.c (.bool false)))))⟩, ⟨none, (.mov 95 (.t 94))⟩, ⟨(some (95, true)), (.mov 96 (.t 8))⟩, ⟨(some (95, true)), (.bin 97 .eql (.t 96) (.v (.k (.c (.int .i64 0)))))⟩, ⟨none, (.pick 98 (.t 95) (.t 97) (.v (.k (.c (.bool false)))))⟩, ⟨none, (.mov 99 (.t 98))⟩, ⟨(some (99, true)), (.mov 100 (.t 10))⟩, ⟨(some (99, true)), (.bin 101 .eql (.t 100) (.v (.k (.c (.int .i64 0)))))⟩, ⟨none, (.pick 102 (.t 99) (.t 101) (.v (.k (.c (.bool false)))))⟩, ⟨none, (.mov 103 (.t 102))⟩, ⟨(some (103, true)), (.mov 104 (.t 12))⟩, ⟨(some (103, true)), (.bin 105 .eql (.t 104) (.v (.k (.c (.int .i64 0)))))⟩, ⟨none, (.pick 106 (.t 103) (.t 105) (.v (.k (.c (.bool false)))))⟩, ⟨none, (.mov 107 (.t 106))⟩, ⟨(some (107, true)), (.mov 108 (.t 14))⟩, ⟨(some (107, true)), (.bin 109 .eql (.t 108) (.v (.k (.c (.int .i64 0)))))⟩, ⟨none, (.pick 110 (.t 107) (.t 109) (.v (.k (.c (.bool false)))))⟩, ⟨none, (.mov 111 (.t 110))⟩, ⟨(some (111, true)), (.mov 112 (.t 16))⟩, ⟨(some (111, true)), (.bin 113 .eql (.t 112) (.v (.k (.c (.int .i64 0)))))⟩, ⟨none, (.pick 114 (.t 111) (.t 113) (.v (.k (.c (.bool false)))))⟩, ⟨none, (.mov 115 (.t 114))⟩, ⟨(some (115, true)), (.mov 116 (.t 18))⟩, ⟨(some (115, true)), (.bin 117 .eql (.t 116) (.v (.k (.c (.int .i64 8)))))⟩, ⟨none, (.pick 118 (.t 115) (.t 117) (.v (.k (.c (.bool false)))))⟩, ⟨none, (.mov 119 (.t 118))⟩, ⟨(some (119, true)), (.mov 120 (.t 20))⟩, ⟨(some (119, true)), (.bin 121 .eql (.t 120) (.v (.k (.c (.int .i64 0)))))⟩, ⟨none, (.pick 122 (.t 119) (.t 121) (.v (.k (.c (.bool false)))))⟩, ⟨none, (.mov 123 (.t 122))⟩, ⟨(some (123, true)), (.mov 124 (.t 22))⟩, ⟨(some (123, true)), (.bin 125 .eql (.t 124) (.v (.k (.c (.int .i64 0)))))⟩, ⟨none, (.pick 126 (.t 123) (.t 125) (.v (.k (.c (.bool false)))))⟩, ⟨none, (.mov 127 (.t 126))⟩, ⟨(some (127, true)), (.mov 128 (.t 24))⟩, ⟨(some (127, true)), (.bin 129 .eql (.t 128) (.v (.k (.c (.int .i64 0)))))⟩, ⟨none, (.pick 130 (.t 127) (.t 129) (.v (.k (.c (.bool false)))))⟩, ⟨none, (.mov 25 (.t 130))⟩]
def f7b4 : AQ := (.seq (.region f7r3) f7b2)
def f7r5 : List AI := [⟨none, (.load 81 4 true (.t 9))⟩, ⟨none, (.call (some 82) 22 [(.t 81), (.v (.k (.c (.int .i64 0))))])⟩, ⟨none, (.mov 80 (.t 82))⟩, ⟨none, (.extr 83 (.t 80) 0)⟩, ⟨none, (.extr 84 (.t 80) 1)⟩, ⟨none, (.mov 23 (.t 83))⟩, ⟨none, (.mov 24 (.t 84))⟩]
def f7b6 : AQ := (.seq (.region f7r5) f7b4)
def f7r7 : List AI := [⟨none, (.load 76 4 true (.t 19))⟩, ⟨none, (.call (some 77) 20 [(.t 76)])⟩, ⟨none, (.mov 75 (.t 77))⟩, ⟨none, (.extr 78 (.t 75) 0)⟩, ⟨none, (.extr 79 (.t 75) 1)⟩, ⟨none, (.mov 21 (.t 78))⟩, ⟨none, (.mov 22 (.t 79))⟩]
def f7b8 : AQ := (.seq (.region f7r7) f7b6)
def f7r9 : List AI := [⟨none, (.load 71 4 true (.t 17))⟩, ⟨none, (.call (some 72) 26 [(.t 71)])⟩, ⟨none, (.mov 70 (.t 72))⟩, ⟨none, (.extr 73 (.t 70) 0)⟩, ⟨none, (.extr 74 (.t 70) 1)⟩, ⟨none, (.alloc 19 27 [(.list 0 (some true) []), (.list 0 (some true) []), (.int .i64 0), (.bool false)])⟩, ⟨none, (.store 4 (.t 19) (.t 73))⟩, ⟨none, (.mov 20 (.t 74))⟩]
def f7b10 : AQ := (.seq (.region f7r9) f7b8)
def f7r11 : List AI := [⟨none, (.load 66 4 true (.t 15))⟩, ⟨none, (.call (some 67) 11 [(.t 66), (.v (.k (.c (.str [99]))))])⟩, ⟨none, (.mov 65 (.t 67))⟩, ⟨none, (.extr 68 (.t 65) 0)⟩, ⟨none, (.extr 69 (.t 65) 1)⟩, ⟨none, (.alloc 17 27 [(.list 0 (some true) []), (.list 0 (some true) []), (.int .i64 0), (.bool false)])⟩, ⟨none, (.store 4 (.t 17) (.t 68))⟩, ⟨none, (.mov 18 (.t 69))⟩]
def f7b12 : AQ := (.seq (.region f7r11) f7b10)
def f7r13 : List AI := [⟨none, (.load 61 4 true (.t 9))⟩, ⟨none, (.call (some 62) 25 [(.t 61), (.v (.k (.c (.int .i64 1))))])⟩, ⟨none, (.mov 60 (.t 62))⟩, ⟨none, (.extr 63 (.t 60) 0)⟩, ⟨none, (.extr 64 (.t 60) 1)⟩, ⟨none, (.alloc 15 27 [(.list 0 (some true) []), (.list 0 (some true) []), (.int .i64 0), (.bool false)])⟩, ⟨none, (.store 4 (.t 15) (.t 63))⟩, ⟨none, (.mov 16 (.t 64))⟩]
def f7b14 : AQ := (.seq (.region f7r13) f7b12)
def f7r15 : List AI := [⟨none, (.load 56 4 true (.t 9))⟩, ⟨none, (.call (some 57) 24 [(.t 56)])⟩, ⟨none, (.mov 55 (.t 57))⟩, ⟨none, (.extr 58 (.t 55) 0)⟩, ⟨none, (.extr 59 (.t 55) 1)⟩, ⟨none, (.mov 13 (.t 58))⟩, ⟨none, (.mov 14 (.t 59))⟩]
def f7b16 : AQ := (.seq (.region f7r15) f7b14)
def f7r17 : List AI := [⟨none, (.load 51 4 true (.t 9))⟩, ⟨none, (.call (some 52) 20 [(.t 51)])⟩, ⟨none, (.mov 50 (.t 52))⟩, ⟨none, (.extr 53 (.t 50) 0)⟩, ⟨none, (.extr 54 (.t 50) 1)⟩, ⟨none, (.mov 11 (.t 53))⟩, ⟨none, (.mov 12 (.t 54))⟩]
def f7b18 : AQ := (.seq (.region f7r17) f7b16)
def f7r19 : List AI := [⟨none, (.load 46 4 true (.t 7))⟩, ⟨none, (.call (some 47) 11 [(.t 46), (.v (.k (.c (.str []))))])⟩, ⟨none, (.mov 45 (.t 47))⟩, ⟨none, (.extr 48 (.t 45) 0)⟩, ⟨none, (.extr 49 (.t 45) 1)⟩, ⟨none, (.alloc 9 27 [(.list 0 (some true) []), (.list 0 (some true) []), (.int .i64 0), (.bool false)])⟩, ⟨none, (.store 4 (.t 9) (.t 48))⟩, ⟨none, (.mov 10 (.t 49))⟩]
def f7b20 : AQ := (.seq (.region f7r19) f7b18)
def f7r21 : List AI := [⟨none, (.load 41 4 true (.t 5))⟩, ⟨none, (.call (some 42) 11 [(.t 41), (.v (.k (.c (.str [97, 98]))))])⟩, ⟨none, (.mov 40 (.t 42))⟩, ⟨none, (.extr 43 (.t 40) 0)⟩, ⟨none, (.extr 44 (.t 40) 1)⟩, ⟨none, (.alloc 7 27 [(.list 0 (some true) []), (.list 0 (some true) []), (.int .i64 0), (.bool false)])⟩, ⟨none, (.store 4 (.t 7) (.t 43))⟩, ⟨none, (.mov 8 (.t 44))⟩]
def f7b22 : AQ := (.seq (.region f7r21) f7b20)
def f7r23 : List AI := [⟨none, (.load 36 4 true (.t 1))⟩, ⟨none, (.call (some 37) 17 [(.t 36)])⟩, ⟨none, (.mov 35 (.t 37))⟩, ⟨none, (.extr 38 (.t 35) 0)⟩, ⟨none, (.extr 39 (.t 35) 1)⟩, ⟨none, (.alloc 5 27 [(.list 0 (some true) []), (.list 0 (some true) []), (.int .i64 0), (.bool false)])⟩, ⟨none, (.store 4 (.t 5) (.t 38))⟩, ⟨none, (.mov 6 (.t 39))⟩]
def f7b24 : AQ := (.seq (.region f7r23) f7b22)
def f7r25 : List AI := [⟨none, (.load 31 4 true (.t 1))⟩, ⟨none, (.call (some 32) 20 [(.t 31)])⟩, ⟨none, (.mov 30 (.t 32))⟩, ⟨none, (.extr 33 (.t 30) 0)⟩, ⟨none, (.extr 34 (.t 30) 1)⟩, ⟨none, (.mov 3 (.t 33))⟩, ⟨none, (.mov 4 (.t 34))⟩]
def f7b26 : AQ := (.seq (.region f7r25) f7b24)
def f7r27 : List AI := [⟨none, (.call (some 27) 16 [(.v (.k (.c (.int .i64 5))))])⟩, ⟨none, (.mov 26 (.t 27))⟩, ⟨none, (.extr 28 (.t 26) 0)⟩, ⟨none, (.extr 29 (.t 26) 1)⟩, ⟨none, (.alloc 1 27 [(.list 0 (some true) []), (.list 0 (some true) []), (.int .i64 0), (.bool false)])⟩, ⟨none, (.store 4 (.t 1) (.t 28))⟩, ⟨none, (.mov 2 (.t 29))⟩]
def f7b28 : AQ := (.seq (.region f7r27) f7b26)
def f7r29 : List AI := [⟨none, (.mov 0 (.v (.k (.c (.bool false)))))⟩]
def f7b30 : AQ := (.seq (.region f7r29) f7b28)
def f7 : AQ := f7b30
theorem hf7 : cFunc Tryd.prog 7 = some ⟨150, f7.erase, [(RX.t 0)]⟩ := by kernel_rfl
theorem okf7 : f7.ok = true := by kernel_rfl
def f8r1 : List AI := [⟨none, (.mov 18 (.t 0))⟩, ⟨none, (.len 19 (.t 18))⟩, ⟨none, (.mov 20 (.t 1))⟩, ⟨none, (.bin 21 .leq (.t 19) (.t 20))⟩, ⟨none, (.mov 4 (.t 21))⟩]
def f8b2 : AQ := (.seq (.region f8r1) .ret)
def f8r3 : List AI := [⟨none, (.mov 10 (.t 5))⟩, ⟨none, (.bin 11 .add (.t 10) (.v (.k (.c (.int .i64 1)))))⟩, ⟨none, (.mov 5 (.t 11))⟩]
def f8r4 : List AI := [⟨none, (.mov 4 (.v (.k (.c (.bool false)))))⟩]
def f8b5 : AQ := (.seq (.region f8r4) .ret)
def f8b6 : AQ := (.cond (.t 17) f8b5 .skip)
def f8r7 : List AI := [⟨none, (.mov 12 (.t 0))⟩, ⟨none, (.mov 13 (.t 5))⟩, ⟨none, (.iaddr 14 1 (.t 12) (.t 13))⟩, ⟨none, (.load 15 1 false (.t 14))⟩, ⟨none, (.lenS 16 (.t 15))⟩, ⟨none, (.bin 17 .gtr (.t 16) (.v (.k (.c (.int .i64 100)))))⟩]
def f8b8 : AQ := (.seq (.region f8r7) f8b6)
def f8b9 : AQ := (.block 1 f8b8)
def f8b10 : AQ := (.seq f8b9 (.region f8r3))
def f8b11 : AQ := (.cond (.t 9) .skip (.exit 0))
def f8r12 : List AI := [⟨none, (.mov 6 (.t 5))⟩, ⟨none, (.mov 7 (.t 0))⟩, ⟨none, (.len 8 (.t 7))⟩, ⟨none, (.bin 9 .lss (.t 6) (.t 8))⟩]
def f8b13 : AQ := (.seq (.region f8r12) f8b11)
def f8b14 : AQ := (.seq f8b13 f8b10)
def f8l15 : AQ := .loop [0, 1, 5] [] f8b14
theorem uf8l15 (P ts os Q) : awl P f8l15 Q ts os = awl P (.loop [0, 1, 5] [] f8b14) Q ts os := id rfl
def f8b16 : AQ := (.block 0 f8l15)
def f8r17 : List AI := [⟨none, (.mov 5 (.v (.k (.c (.int .i64 0)))))⟩]
def f8b18 : AQ := (.seq (.region f8r17) f8b16)
def f8b19 : AQ := (.seq f8b18 f8b2)
def f8r20 : List AI := [⟨none, (.mov 4 (.v (.k (.c (.bool false)))))⟩]
def f8b21 : AQ := (.seq (.region f8r20) f8b19)
def f8 : AQ := f8b21
theorem hf8 : cFunc Tryd.prog 8 = some ⟨22, f8.erase, [(RX.t 4)]⟩ := by kernel_rfl
theorem okf8 : f8.ok = true := by kernel_rfl
def f9r1 : List AI := [⟨none, (.load 40 4 true (.t 8))⟩, ⟨none, (.mov 41 (.t 9))⟩, ⟨none, (.bin 42 .eql (.t 41) (.v (.k (.c (.int .i64 0)))))⟩, ⟨none, (.store 4 (.t 4) (.t 40))⟩, ⟨none, (.mov 5 (.t 42))⟩]
def f9b2 : AQ := (.seq (.region f9r1) .ret)
def f9r3 : List AI := [⟨none, (.mov 29 (.t 10))⟩, ⟨none, (.bin 30 .add (.t 29) (.v (.k (.c (.int .i64 1)))))⟩, ⟨none, (.mov 10 (.t 30))⟩]
def f9r4o0 : AI := ⟨none, (.load 32 4 true (.t 8))⟩
def f9r4o1 : AI := ⟨none, (.mov 33 (.t 1))⟩
def f9r4o2 : AI := ⟨none, (.mov 34 (.t 10))⟩
def f9r4o3 : AI := ⟨none, (.iaddr 35 1 (.t 33) (.t 34))⟩
def f9r4o4 : AI := ⟨none, (.load 36 1 false (.t 35))⟩
def f9r4o5 : AI := ⟨none, (.call (some 37) 11 [(.t 32), (.t 36)])⟩
def f9r4o6 : AI := ⟨none, (.mov 31 (.t 37))⟩
def f9r4o7 : AI := ⟨none, (.extr 38 (.t 31) 0)⟩
def f9r4o8 : AI := ⟨none, (.extr 39 (.t 31) 1)⟩
def f9r4o9 : AI := ⟨none, (.store 4 (.t 8) (.t 38))⟩
def f9r4o10 : AI := ⟨none, (.mov 9 (.t 39))⟩
def f9r4 : List AI := [f9r4o0, f9r4o1, f9r4o2, f9r4o3, f9r4o4, f9r4o5, f9r4o6, f9r4o7, f9r4o8, f9r4o9, f9r4o10]
theorem utf9r4 : treeOf f9r4 [[], [], [], [1, 2], [3], [0, 4], [5], [6], [6], [7, 5, 0, 1, 2, 3, 4, 5, 6, 7], [8, 9, 0, 1, 2, 3, 4, 5, 6, 7, 8, 9]] = (.one f9r4o0 (.one f9r4o1 (.one f9r4o2 (.one f9r4o3 (.one f9r4o4 (.one f9r4o5 (.one f9r4o6 (.one f9r4o7 (.alt (.one f9r4o8 (.one f9r4o9 (.one f9r4o10 .done))) (.alt (.one f9r4o9 (.one f9r4o8 (.one f9r4o10 .done))) .top)))))))))) := by kernel_rfl
def f9b5 : AQ := (.block 1 (.tree f9r4 [[], [], [], [1, 2], [3], [0, 4], [5], [6], [6], [7, 5, 0, 1, 2, 3, 4, 5, 6, 7], [8, 9, 0, 1, 2, 3, 4, 5, 6, 7, 8, 9]]))
def f9b6 : AQ := (.seq f9b5 (.region f9r3))
def f9b7 : AQ := (.cond (.t 28) .skip (.exit 0))
def f9r8 : List AI := [⟨none, (.mov 21 (.t 10))⟩, ⟨none, (.mov 22 (.t 1))⟩, ⟨none, (.len 23 (.t 22))⟩, ⟨none, (.bin 24 .lss (.t 21) (.t 23))⟩, ⟨none, (.mov 25 (.t 24))⟩, ⟨(some (25, true)), (.mov 26 (.t 9))⟩, ⟨(some (25, true)), (.bin 27 .eql (.t 26) (.v (.k (.c (.int .i64 0)))))⟩, ⟨none, (.pick 28 (.t 25) (.t 27) (.v (.k (.c (.bool false)))))⟩]
def f9b9 : AQ := (.seq (.region f9r8) f9b7)
def f9b10 : AQ := (.seq f9b9 f9b6)
def f9l11 : AQ := .loop [1, 4, 8, 9, 10] [4, 8, 13, 18, 37, 14000, 14001, 14002, 19000, 19001, 19002, 38000, 38001, 38002] f9b10
theorem uf9l11 (P ts os Q) : awl P f9l11 Q ts os = awl P (.loop [1, 4, 8, 9, 10] [4, 8, 13, 18, 37, 14000, 14001, 14002, 19000, 19001, 19002, 38000, 38001, 38002] f9b10) Q ts os := id rfl
def f9b12 : AQ := (.block 0 f9l11)
def f9r13 : List AI := [⟨none, (.mov 10 (.v (.k (.c (.int .i64 0)))))⟩]
def f9b14 : AQ := (.seq (.region f9r13) f9b12)
def f9b15 : AQ := (.seq f9b14 f9b2)
def f9r16 : List AI := [⟨none, (.load 17 4 true (.t 6))⟩, ⟨none, (.call (some 18) 17 [(.t 17)])⟩, ⟨none, (.mov 16 (.t 18))⟩, ⟨none, (.extr 19 (.t 16) 0)⟩, ⟨none, (.extr 20 (.t 16) 1)⟩, ⟨none, (.alloc 8 27 [(.list 0 (some true) []), (.list 0 (some true) []), (.int .i64 0), (.bool false)])⟩, ⟨none, (.store 4 (.t 8) (.t 19))⟩, ⟨none, (.mov 9 (.t 20))⟩]
def f9b17 : AQ := (.seq (.region f9r16) f9b15)
def f9r18 : List AI := [⟨none, (.mov 12 (.t 0))⟩, ⟨none, (.call (some 13) 16 [(.t 12)])⟩, ⟨none, (.mov 11 (.t 13))⟩, ⟨none, (.extr 14 (.t 11) 0)⟩, ⟨none, (.extr 15 (.t 11) 1)⟩, ⟨none, (.alloc 6 27 [(.list 0 (some true) []), (.list 0 (some true) []), (.int .i64 0), (.bool false)])⟩, ⟨none, (.store 4 (.t 6) (.t 14))⟩, ⟨none, (.mov 7 (.t 15))⟩]
def f9b19 : AQ := (.seq (.region f9r18) f9b17)
def f9r20 : List AI := [⟨none, (.alloc 4 27 [(.list 0 (some true) []), (.list 0 (some true) []), (.int .i64 0), (.bool false)])⟩, ⟨none, (.mov 5 (.v (.k (.c (.bool false)))))⟩]
def f9b21 : AQ := (.seq (.region f9r20) f9b19)
def f9 : AQ := f9b21
theorem hf9 : cFunc Tryd.prog 9 = some ⟨43, f9.erase, [(RX.cell 4 4 true), (RX.t 5)]⟩ := by kernel_rfl
theorem okf9 : f9.ok = true := by kernel_rfl
end Go.Abs

