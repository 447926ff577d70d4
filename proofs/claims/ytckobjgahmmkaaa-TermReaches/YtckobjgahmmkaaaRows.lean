/-
  NARROWER THAN 'FOR EVERY INPUT', by the rows' own cells (each row's printed sentence says how): CheckTells: loops · CheckBends: loops · TermChecks: loops · TermEvals: loops · TermKnows: loops · TermReaches: loops · TermRanges: loops · TermDepends: loops · CheckRules: loops · CheckUses: loops · CheckBlind: loops.
  DERIVED. THE GIVEN ROWS OF THIS SEAT. 11 by the template 'for every input the law returns true; each argument reads behind the call as it read before'; 0 by the template 'total and deterministic' (their statements: YtckobjgahmmkaaaTotals.lean).
  GIVEN WITH THE SEED: the statements are not yours to turn. If you find one false, say at which input.
  Laid BY PROGRAM, IN A SANDBOX (cutbox-rows.mjs): the forced cells as the released guide's own fill.sh prints them over the translation 4fd259b89ebbd023… (all of the seat's roots in one cut). By AI agents, Wed Nov 11 2026. No macro, syntax, notation, axiom, sorry.
-/
import Derived.Test.YtckobjgahmmkaaaChecked
import GoSem.Claim
import GoSem.ClaimJoined
import GoSem.ClaimMapViews
import Derived.JoinedTies
import Derived.KernelRfl
namespace Go.Proofs.Ytckobjgahmmkaaa
/- THE CELL 'sum', in the pinned program and in every row, IS THE sha256 OF THE DUMP (.gsa) THAT YtckobjgahmmkaaaProg.lean LOADS. Nothing in Lean hashes anything: it is a label: what it is worth is what the hold of that sum in a sandbox is worth. -/
noncomputable def Try.pinned : Pinned := { name := "ytckobjgahmmkaaa", sum := "4fd259b89ebbd0233cefcf96c0654cc52131c03d21c2b6f65bf970d8f33ff42a", checked := Try.checked }
namespace Rows
def none {H : Type} : Left H := { results := [], args := [] }

/-- 'allongelaw17.CheckTells': WHATEVER THE INPUT: true; the input reads as it did. -/
def checkTellsSpec : ChangeSpec := { name := "checkTells", fn := fun _ => fun
  | [d1, d2, d3] => { results := [.lit (.bool true)], args := [d1, d2, d3] }
  | _ => none }
def checkTellsRow : OpenClaim := { program := "ytckobjgahmmkaaa", sum := "4fd259b89ebbd0233cefcf96c0654cc52131c03d21c2b6f65bf970d8f33ff42a", func := "allonge/allongelaw17.CheckTells", spec := "checkTells", unfollowed := true, recurses := true, loops := true, apart := false }
def CheckTellsSaid : Prop := checkTellsRow.holds Try.pinned (OpenSpec.ofChange checkTellsSpec)

/-- ITS FALSE NEIGHBOUR: 'it returns false'. Refute it at one input. -/
def checkTellsWrong : ChangeSpec := { name := "checkTells", fn := fun _ => fun
  | [d1, d2, d3] => { results := [.lit (.bool false)], args := [d1, d2, d3] }
  | _ => none }
def CheckTellsWrongFalsely : Prop := checkTellsRow.holds Try.pinned (OpenSpec.ofChange checkTellsWrong)

/-- 'allongelaw17.CheckBends': WHATEVER THE INPUT: true; the input reads as it did. -/
def checkBendsSpec : ChangeSpec := { name := "checkBends", fn := fun _ => fun
  | [d1, d2, d3] => { results := [.lit (.bool true)], args := [d1, d2, d3] }
  | _ => none }
def checkBendsRow : OpenClaim := { program := "ytckobjgahmmkaaa", sum := "4fd259b89ebbd0233cefcf96c0654cc52131c03d21c2b6f65bf970d8f33ff42a", func := "allonge/allongelaw17.CheckBends", spec := "checkBends", unfollowed := true, recurses := true, loops := true, apart := false }
def CheckBendsSaid : Prop := checkBendsRow.holds Try.pinned (OpenSpec.ofChange checkBendsSpec)

/-- ITS FALSE NEIGHBOUR: 'it returns false'. Refute it at one input. -/
def checkBendsWrong : ChangeSpec := { name := "checkBends", fn := fun _ => fun
  | [d1, d2, d3] => { results := [.lit (.bool false)], args := [d1, d2, d3] }
  | _ => none }
def CheckBendsWrongFalsely : Prop := checkBendsRow.holds Try.pinned (OpenSpec.ofChange checkBendsWrong)

/-- 'allongelaw15.TermChecks': WHATEVER THE INPUT: true; the input reads as it did. -/
def termChecksSpec : ChangeSpec := { name := "termChecks", fn := fun _ => fun
  | [d1, d2] => { results := [.lit (.bool true)], args := [d1, d2] }
  | _ => none }
def termChecksRow : OpenClaim := { program := "ytckobjgahmmkaaa", sum := "4fd259b89ebbd0233cefcf96c0654cc52131c03d21c2b6f65bf970d8f33ff42a", func := "allonge/allongelaw15.TermChecks", spec := "termChecks", unfollowed := true, recurses := true, loops := true, apart := false }
def TermChecksSaid : Prop := termChecksRow.holds Try.pinned (OpenSpec.ofChange termChecksSpec)

/-- ITS FALSE NEIGHBOUR: 'it returns false'. Refute it at one input. -/
def termChecksWrong : ChangeSpec := { name := "termChecks", fn := fun _ => fun
  | [d1, d2] => { results := [.lit (.bool false)], args := [d1, d2] }
  | _ => none }
def TermChecksWrongFalsely : Prop := termChecksRow.holds Try.pinned (OpenSpec.ofChange termChecksWrong)

/-- 'allongelaw15.TermEvals': WHATEVER THE INPUT: true; the input reads as it did. -/
def termEvalsSpec : ChangeSpec := { name := "termEvals", fn := fun _ => fun
  | [d1, d2] => { results := [.lit (.bool true)], args := [d1, d2] }
  | _ => none }
def termEvalsRow : OpenClaim := { program := "ytckobjgahmmkaaa", sum := "4fd259b89ebbd0233cefcf96c0654cc52131c03d21c2b6f65bf970d8f33ff42a", func := "allonge/allongelaw15.TermEvals", spec := "termEvals", unfollowed := true, recurses := true, loops := true, apart := false }
def TermEvalsSaid : Prop := termEvalsRow.holds Try.pinned (OpenSpec.ofChange termEvalsSpec)

/-- ITS FALSE NEIGHBOUR: 'it returns false'. Refute it at one input. -/
def termEvalsWrong : ChangeSpec := { name := "termEvals", fn := fun _ => fun
  | [d1, d2] => { results := [.lit (.bool false)], args := [d1, d2] }
  | _ => none }
def TermEvalsWrongFalsely : Prop := termEvalsRow.holds Try.pinned (OpenSpec.ofChange termEvalsWrong)

/-- 'allongelaw15.TermKnows': WHATEVER THE INPUT: true; the input reads as it did. -/
def termKnowsSpec : ChangeSpec := { name := "termKnows", fn := fun _ => fun
  | [d1, d2, d3, d4] => { results := [.lit (.bool true)], args := [d1, d2, d3, d4] }
  | _ => none }
def termKnowsRow : OpenClaim := { program := "ytckobjgahmmkaaa", sum := "4fd259b89ebbd0233cefcf96c0654cc52131c03d21c2b6f65bf970d8f33ff42a", func := "allonge/allongelaw15.TermKnows", spec := "termKnows", unfollowed := true, recurses := true, loops := true, apart := false }
def TermKnowsSaid : Prop := termKnowsRow.holds Try.pinned (OpenSpec.ofChange termKnowsSpec)

/-- ITS FALSE NEIGHBOUR: 'it returns false'. Refute it at one input. -/
def termKnowsWrong : ChangeSpec := { name := "termKnows", fn := fun _ => fun
  | [d1, d2, d3, d4] => { results := [.lit (.bool false)], args := [d1, d2, d3, d4] }
  | _ => none }
def TermKnowsWrongFalsely : Prop := termKnowsRow.holds Try.pinned (OpenSpec.ofChange termKnowsWrong)

/-- 'allongelaw15.TermReaches': WHATEVER THE INPUT: true; the input reads as it did. -/
def termReachesSpec : ChangeSpec := { name := "termReaches", fn := fun _ => fun
  | [d1, d2, d3] => { results := [.lit (.bool true)], args := [d1, d2, d3] }
  | _ => none }
def termReachesRow : OpenClaim := { program := "ytckobjgahmmkaaa", sum := "4fd259b89ebbd0233cefcf96c0654cc52131c03d21c2b6f65bf970d8f33ff42a", func := "allonge/allongelaw15.TermReaches", spec := "termReaches", unfollowed := true, recurses := true, loops := true, apart := false }
def TermReachesSaid : Prop := termReachesRow.holds Try.pinned (OpenSpec.ofChange termReachesSpec)

/-- ITS FALSE NEIGHBOUR: 'it returns false'. Refute it at one input. -/
def termReachesWrong : ChangeSpec := { name := "termReaches", fn := fun _ => fun
  | [d1, d2, d3] => { results := [.lit (.bool false)], args := [d1, d2, d3] }
  | _ => none }
def TermReachesWrongFalsely : Prop := termReachesRow.holds Try.pinned (OpenSpec.ofChange termReachesWrong)

/-- 'allongelaw15.TermRanges': WHATEVER THE INPUT: true; the input reads as it did. -/
def termRangesSpec : ChangeSpec := { name := "termRanges", fn := fun _ => fun
  | [d1, d2] => { results := [.lit (.bool true)], args := [d1, d2] }
  | _ => none }
def termRangesRow : OpenClaim := { program := "ytckobjgahmmkaaa", sum := "4fd259b89ebbd0233cefcf96c0654cc52131c03d21c2b6f65bf970d8f33ff42a", func := "allonge/allongelaw15.TermRanges", spec := "termRanges", unfollowed := true, recurses := true, loops := true, apart := false }
def TermRangesSaid : Prop := termRangesRow.holds Try.pinned (OpenSpec.ofChange termRangesSpec)

/-- ITS FALSE NEIGHBOUR: 'it returns false'. Refute it at one input. -/
def termRangesWrong : ChangeSpec := { name := "termRanges", fn := fun _ => fun
  | [d1, d2] => { results := [.lit (.bool false)], args := [d1, d2] }
  | _ => none }
def TermRangesWrongFalsely : Prop := termRangesRow.holds Try.pinned (OpenSpec.ofChange termRangesWrong)

/-- 'allongelaw15.TermDepends': WHATEVER THE INPUT: true; the input reads as it did. -/
def termDependsSpec : ChangeSpec := { name := "termDepends", fn := fun _ => fun
  | [d1, d2, d3] => { results := [.lit (.bool true)], args := [d1, d2, d3] }
  | _ => none }
def termDependsRow : OpenClaim := { program := "ytckobjgahmmkaaa", sum := "4fd259b89ebbd0233cefcf96c0654cc52131c03d21c2b6f65bf970d8f33ff42a", func := "allonge/allongelaw15.TermDepends", spec := "termDepends", unfollowed := true, recurses := true, loops := true, apart := false }
def TermDependsSaid : Prop := termDependsRow.holds Try.pinned (OpenSpec.ofChange termDependsSpec)

/-- ITS FALSE NEIGHBOUR: 'it returns false'. Refute it at one input. -/
def termDependsWrong : ChangeSpec := { name := "termDepends", fn := fun _ => fun
  | [d1, d2, d3] => { results := [.lit (.bool false)], args := [d1, d2, d3] }
  | _ => none }
def TermDependsWrongFalsely : Prop := termDependsRow.holds Try.pinned (OpenSpec.ofChange termDependsWrong)

/-- 'allongelaw17.CheckRules': WHATEVER THE INPUT: true; the input reads as it did. -/
def checkRulesSpec : ChangeSpec := { name := "checkRules", fn := fun _ => fun
  | [d1, d2] => { results := [.lit (.bool true)], args := [d1, d2] }
  | _ => none }
def checkRulesRow : OpenClaim := { program := "ytckobjgahmmkaaa", sum := "4fd259b89ebbd0233cefcf96c0654cc52131c03d21c2b6f65bf970d8f33ff42a", func := "allonge/allongelaw17.CheckRules", spec := "checkRules", unfollowed := true, recurses := true, loops := true, apart := false }
def CheckRulesSaid : Prop := checkRulesRow.holds Try.pinned (OpenSpec.ofChange checkRulesSpec)

/-- ITS FALSE NEIGHBOUR: 'it returns false'. Refute it at one input. -/
def checkRulesWrong : ChangeSpec := { name := "checkRules", fn := fun _ => fun
  | [d1, d2] => { results := [.lit (.bool false)], args := [d1, d2] }
  | _ => none }
def CheckRulesWrongFalsely : Prop := checkRulesRow.holds Try.pinned (OpenSpec.ofChange checkRulesWrong)

/-- 'allongelaw17.CheckUses': WHATEVER THE INPUT: true; the input reads as it did. -/
def checkUsesSpec : ChangeSpec := { name := "checkUses", fn := fun _ => fun
  | [d1, d2, d3] => { results := [.lit (.bool true)], args := [d1, d2, d3] }
  | _ => none }
def checkUsesRow : OpenClaim := { program := "ytckobjgahmmkaaa", sum := "4fd259b89ebbd0233cefcf96c0654cc52131c03d21c2b6f65bf970d8f33ff42a", func := "allonge/allongelaw17.CheckUses", spec := "checkUses", unfollowed := true, recurses := true, loops := true, apart := false }
def CheckUsesSaid : Prop := checkUsesRow.holds Try.pinned (OpenSpec.ofChange checkUsesSpec)

/-- ITS FALSE NEIGHBOUR: 'it returns false'. Refute it at one input. -/
def checkUsesWrong : ChangeSpec := { name := "checkUses", fn := fun _ => fun
  | [d1, d2, d3] => { results := [.lit (.bool false)], args := [d1, d2, d3] }
  | _ => none }
def CheckUsesWrongFalsely : Prop := checkUsesRow.holds Try.pinned (OpenSpec.ofChange checkUsesWrong)

/-- 'allongelaw17.CheckBlind': WHATEVER THE INPUT: true; the input reads as it did. -/
def checkBlindSpec : ChangeSpec := { name := "checkBlind", fn := fun _ => fun
  | [d1, d2] => { results := [.lit (.bool true)], args := [d1, d2] }
  | _ => none }
def checkBlindRow : OpenClaim := { program := "ytckobjgahmmkaaa", sum := "4fd259b89ebbd0233cefcf96c0654cc52131c03d21c2b6f65bf970d8f33ff42a", func := "allonge/allongelaw17.CheckBlind", spec := "checkBlind", unfollowed := true, recurses := true, loops := true, apart := false }
def CheckBlindSaid : Prop := checkBlindRow.holds Try.pinned (OpenSpec.ofChange checkBlindSpec)

/-- ITS FALSE NEIGHBOUR: 'it returns false'. Refute it at one input. -/
def checkBlindWrong : ChangeSpec := { name := "checkBlind", fn := fun _ => fun
  | [d1, d2] => { results := [.lit (.bool false)], args := [d1, d2] }
  | _ => none }
def CheckBlindWrongFalsely : Prop := checkBlindRow.holds Try.pinned (OpenSpec.ofChange checkBlindWrong)

/- THE SECOND FORM. 'bulk': how many values and letters a reading holds, each counted each time it is reached (what is shared counts as often as it is met; a slice's spare places count too). A statement '..UptoSaid' is the law's where the arguments, and the package variables that the reading takes, are together of bulk at most 1048576: NARROWER than '..Said'. Prove '..Said' where nothing that the law and all that it calls make is longer than what came in: it says more and counts as full. Else prove '..UptoSaid'. A law counts once. -/
mutual
def uptoBulk {H : Type} : DataW H → Nat
  | .lit (.string bytes) => bytes.length + 1
  | .lit _ => 1
  | .nil => 1
  | .ptr d => uptoBulk d + 1
  | .slice elems spare => uptoBulkAll elems + uptoBulkAll spare + 1
  | .agg parts => uptoBulkAll parts + 1
  | .iface _ d => uptoBulk d + 1
  | .map entries => uptoBulkEntries entries + 1
  | .held _ => 1
def uptoBulkAll {H : Type} : List (DataW H) → Nat
  | [] => 0
  | d :: r => uptoBulk d + uptoBulkAll r
def uptoBulkEntries {H : Type} : List (Lit × DataW H) → Nat
  | [] => 0
  | x :: r => uptoBulkEntry x + uptoBulkEntries r
def uptoBulkEntry {H : Type} : Lit × DataW H → Nat
  | (.string bytes, d) => bytes.length + uptoBulk d + 1
  | (_, d) => uptoBulk d + 1
 end
def uptoSmall : (H : Type) → List (DataW H) → Bool := fun _ ds => decide (uptoBulkAll ds ≤ 1048576)
def OpenSpec.upto (s : _root_.Go.ChangeSpec) : _root_.Go.OpenSpec := { _root_.Go.OpenSpec.ofChange s with cond := some uptoSmall }

/-- 'allongelaw17.CheckTells', WHERE WHAT IT READS IS OF BULK AT MOST 1048576: true; the input reads as it did. -/
def checkTellsUptoRow : OpenClaim := { program := "ytckobjgahmmkaaa", sum := "4fd259b89ebbd0233cefcf96c0654cc52131c03d21c2b6f65bf970d8f33ff42a", func := "allonge/allongelaw17.CheckTells", spec := "checkTells", unfollowed := true, recurses := true, loops := true, apart := false, narrowed := true }
def CheckTellsUptoSaid : Prop := checkTellsUptoRow.holds Try.pinned (OpenSpec.upto checkTellsSpec)

/-- 'allongelaw17.CheckBends', WHERE WHAT IT READS IS OF BULK AT MOST 1048576: true; the input reads as it did. -/
def checkBendsUptoRow : OpenClaim := { program := "ytckobjgahmmkaaa", sum := "4fd259b89ebbd0233cefcf96c0654cc52131c03d21c2b6f65bf970d8f33ff42a", func := "allonge/allongelaw17.CheckBends", spec := "checkBends", unfollowed := true, recurses := true, loops := true, apart := false, narrowed := true }
def CheckBendsUptoSaid : Prop := checkBendsUptoRow.holds Try.pinned (OpenSpec.upto checkBendsSpec)

/-- 'allongelaw15.TermChecks', WHERE WHAT IT READS IS OF BULK AT MOST 1048576: true; the input reads as it did. -/
def termChecksUptoRow : OpenClaim := { program := "ytckobjgahmmkaaa", sum := "4fd259b89ebbd0233cefcf96c0654cc52131c03d21c2b6f65bf970d8f33ff42a", func := "allonge/allongelaw15.TermChecks", spec := "termChecks", unfollowed := true, recurses := true, loops := true, apart := false, narrowed := true }
def TermChecksUptoSaid : Prop := termChecksUptoRow.holds Try.pinned (OpenSpec.upto termChecksSpec)

/-- 'allongelaw15.TermEvals', WHERE WHAT IT READS IS OF BULK AT MOST 1048576: true; the input reads as it did. -/
def termEvalsUptoRow : OpenClaim := { program := "ytckobjgahmmkaaa", sum := "4fd259b89ebbd0233cefcf96c0654cc52131c03d21c2b6f65bf970d8f33ff42a", func := "allonge/allongelaw15.TermEvals", spec := "termEvals", unfollowed := true, recurses := true, loops := true, apart := false, narrowed := true }
def TermEvalsUptoSaid : Prop := termEvalsUptoRow.holds Try.pinned (OpenSpec.upto termEvalsSpec)

/-- 'allongelaw15.TermKnows', WHERE WHAT IT READS IS OF BULK AT MOST 1048576: true; the input reads as it did. -/
def termKnowsUptoRow : OpenClaim := { program := "ytckobjgahmmkaaa", sum := "4fd259b89ebbd0233cefcf96c0654cc52131c03d21c2b6f65bf970d8f33ff42a", func := "allonge/allongelaw15.TermKnows", spec := "termKnows", unfollowed := true, recurses := true, loops := true, apart := false, narrowed := true }
def TermKnowsUptoSaid : Prop := termKnowsUptoRow.holds Try.pinned (OpenSpec.upto termKnowsSpec)

/-- 'allongelaw15.TermReaches', WHERE WHAT IT READS IS OF BULK AT MOST 1048576: true; the input reads as it did. -/
def termReachesUptoRow : OpenClaim := { program := "ytckobjgahmmkaaa", sum := "4fd259b89ebbd0233cefcf96c0654cc52131c03d21c2b6f65bf970d8f33ff42a", func := "allonge/allongelaw15.TermReaches", spec := "termReaches", unfollowed := true, recurses := true, loops := true, apart := false, narrowed := true }
def TermReachesUptoSaid : Prop := termReachesUptoRow.holds Try.pinned (OpenSpec.upto termReachesSpec)

/-- 'allongelaw15.TermRanges', WHERE WHAT IT READS IS OF BULK AT MOST 1048576: true; the input reads as it did. -/
def termRangesUptoRow : OpenClaim := { program := "ytckobjgahmmkaaa", sum := "4fd259b89ebbd0233cefcf96c0654cc52131c03d21c2b6f65bf970d8f33ff42a", func := "allonge/allongelaw15.TermRanges", spec := "termRanges", unfollowed := true, recurses := true, loops := true, apart := false, narrowed := true }
def TermRangesUptoSaid : Prop := termRangesUptoRow.holds Try.pinned (OpenSpec.upto termRangesSpec)

/-- 'allongelaw15.TermDepends', WHERE WHAT IT READS IS OF BULK AT MOST 1048576: true; the input reads as it did. -/
def termDependsUptoRow : OpenClaim := { program := "ytckobjgahmmkaaa", sum := "4fd259b89ebbd0233cefcf96c0654cc52131c03d21c2b6f65bf970d8f33ff42a", func := "allonge/allongelaw15.TermDepends", spec := "termDepends", unfollowed := true, recurses := true, loops := true, apart := false, narrowed := true }
def TermDependsUptoSaid : Prop := termDependsUptoRow.holds Try.pinned (OpenSpec.upto termDependsSpec)

/-- 'allongelaw17.CheckRules', WHERE WHAT IT READS IS OF BULK AT MOST 1048576: true; the input reads as it did. -/
def checkRulesUptoRow : OpenClaim := { program := "ytckobjgahmmkaaa", sum := "4fd259b89ebbd0233cefcf96c0654cc52131c03d21c2b6f65bf970d8f33ff42a", func := "allonge/allongelaw17.CheckRules", spec := "checkRules", unfollowed := true, recurses := true, loops := true, apart := false, narrowed := true }
def CheckRulesUptoSaid : Prop := checkRulesUptoRow.holds Try.pinned (OpenSpec.upto checkRulesSpec)

/-- 'allongelaw17.CheckUses', WHERE WHAT IT READS IS OF BULK AT MOST 1048576: true; the input reads as it did. -/
def checkUsesUptoRow : OpenClaim := { program := "ytckobjgahmmkaaa", sum := "4fd259b89ebbd0233cefcf96c0654cc52131c03d21c2b6f65bf970d8f33ff42a", func := "allonge/allongelaw17.CheckUses", spec := "checkUses", unfollowed := true, recurses := true, loops := true, apart := false, narrowed := true }
def CheckUsesUptoSaid : Prop := checkUsesUptoRow.holds Try.pinned (OpenSpec.upto checkUsesSpec)

/-- 'allongelaw17.CheckBlind', WHERE WHAT IT READS IS OF BULK AT MOST 1048576: true; the input reads as it did. -/
def checkBlindUptoRow : OpenClaim := { program := "ytckobjgahmmkaaa", sum := "4fd259b89ebbd0233cefcf96c0654cc52131c03d21c2b6f65bf970d8f33ff42a", func := "allonge/allongelaw17.CheckBlind", spec := "checkBlind", unfollowed := true, recurses := true, loops := true, apart := false, narrowed := true }
def CheckBlindUptoSaid : Prop := checkBlindUptoRow.holds Try.pinned (OpenSpec.upto checkBlindSpec)

end Rows
end Go.Proofs.Ytckobjgahmmkaaa
