/- A part of the proof; the last text states what is proved. -/
import Derived.Test.YtckobjgahmmkaaaP5
import Derived.Test.YtckobjgahmmkaaaRows
import Derived.ProofKit
import Derived.DataShut
set_option linter.unusedVariables false
set_option linter.unusedSimpArgs false
set_option maxRecDepth 100000
namespace Go.Proofs.Ytckobjgahmmkaaa
open Go.Abs Go.RowKit
theorem own : ownKnob Try.prog.godebug = none := by kernel_rfl
theorem kids : Kids Try.prog (· < Try.prog.types.size) := kids_rows (by kernel_rfl) (by kernel_rfl)
theorem full : ∀ t e, t < Try.prog.types.size → Try.prog.underlying t = some (.slice e) → 0 < Try.prog.cellsOf e := slices_full_of Try.prog (by kernel_rfl)
def plainTs : List TypeId := [3, 4, 39, 41, 51, 53, 57]
theorem plainTs_ok : plainT Try.prog plainTs = true := by kernel_rfl
theorem plainTs_lt : ∀ t ∈ plainTs, t < Try.prog.types.size := by
  have : plainTs.all (fun t => decide (t < Try.prog.types.size)) = true := by kernel_rfl
  simpa using this
theorem tt : TermTypes Try.prog 3 4 9 41 39 43 23 45 22 25 where
  i := Try.underlying3
  b := Try.underlying4
  s := Try.underlying9
  t := ⟨_, Try.underlying41, rfl⟩
  lt := ⟨Try.underlying39, by kernel_rfl⟩
  r := ⟨_, Try.underlying43, rfl⟩
  lr := ⟨Try.underlying23, by kernel_rfl⟩
  c := ⟨_, Try.underlying45, rfl⟩
  lc := ⟨Try.underlying22, by kernel_rfl⟩
  o := ⟨_, Try.underlying25, rfl⟩
theorem spec7 (xs : List V) (h : ArgsOf Try.prog [41, 51, 51, 57] xs) : Go.Abs.Spec Try.prog 7 xs (fun r => r = .bool true) := by
  match xs, h with
  | [a0, a1, a2, a3], ⟨⟨_, _, h0, q0⟩, ⟨_, _, h1, q1⟩, ⟨_, _, h2, q2⟩, ⟨_, _, h3, q3⟩, _⟩ =>
    obtain ⟨x0, e0⟩ := arg_term tt h0
    obtain ⟨x1, e1⟩ := arg_cells Try.underlying51 Try.underlying53 rfl tt.b tt.i (by kernel_rfl) h1
    obtain ⟨x2, e2⟩ := arg_cells Try.underlying51 Try.underlying53 rfl tt.b tt.i (by kernel_rfl) h2
    obtain ⟨x3, e3⟩ := arg_bools Try.underlying57 tt.b (by kernel_rfl) h3
    rw [q0, q1, q2, q3, e0, e1, e2, e3]
    exact k7 x0 x1 x2 x3
theorem lifted7 (os : Os) (started : os.Started) (H : Type) (enc : TypeId × Value → H) :
    ReturnsInHanded {} Try.checked os 7 .any (Rows.termKnowsSpec.pre6 enc Try.prog Try.f7 Rows.termKnowsRow.domain false) (Rows.termKnowsSpec.post enc Try.prog Try.f7 Rows.termKnowsRow.apart Rows.termKnowsRow.fresh Rows.termKnowsRow.handsOn Rows.termKnowsRow.again) := by
  refine law_lifted (C := Try.checked) (T := plainTs) (tb := 4) own started (by kernel_rfl) Try.func7 ?_ plainTs_ok plainTs_lt ?_ kids full rfl ?_ ?_ Try.underlying4 ?_
  · exact ChangeSpec.witness6 (enc := enc) (C := Try.checked) false ⟨#[], #[.agg #[.int .i64 0, .int .i64 0, .slice none 0 0], .slice none 0 0, .slice none 0 0, .slice none 0 0], []⟩ 8 (by kernel_rfl) (by kernel_rfl) (by kernel_rfl) (by kernel_rfl)
  · rw [Try.params7]; decide
  · intro ds hds
    rw [Try.params7] at hds
    match ds, hds with
    | [a0, a1, a2, a3], _ => rfl
  · kernel_rfl
  · intro xs hxs
    rw [Try.params7] at hxs
    exact spec7 xs hxs
theorem TermKnows_holds : Rows.TermKnowsSaid :=
  OpenClaim.holds_of_wide 7 Try.f7 rfl rfl rfl rfl rfl rfl rfl ⟨rfl, rfl, rfl, rfl, rfl⟩ rfl rfl rfl rfl rfl (by kernel_rfl) Try.func7 (by kernel_rfl)
    (of_decide_eq_true (by kernel_rfl)) (by unfold Func.isWrapper; first | (rw [if_pos (by decide +kernel)]; kernel_rfl) | (rw [if_neg (by decide +kernel)]; exact ⟨rfl, rfl⟩))
    (fun os started H enc _ => lifted7 os started H enc)
end Go.Proofs.Ytckobjgahmmkaaa

