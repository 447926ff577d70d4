/-
  No cell of these rows narrows 'for every input' (looked for: loops, veiled, ifaces, maps, wideKeys, modest, calm, conditions, laid).
  DERIVED. THE GIVEN ROWS OF THIS SEAT. 5 by the template 'for every input the law returns true; each argument reads behind the call as it read before'; 0 by the template 'total and deterministic' (their statements: YtefmlddbkmgliaaTotals.lean).
  GIVEN WITH THE SEED: the statements are not yours to turn. If you find one false, say at which input.
  Laid BY PROGRAM, IN A SANDBOX (cutbox-rows.mjs): the forced cells as the released guide's own fill.sh prints them over the translation 4477fb5db9d2e22d… (all of the seat's roots in one cut). By AI agents, Wed Nov 11 2026. No macro, syntax, notation, axiom, sorry.
-/
import Derived.Test.YtefmlddbkmgliaaChecked
import GoSem.Claim
import GoSem.ClaimJoined
import GoSem.ClaimMapViews
import Derived.JoinedTies
import Derived.KernelRfl
namespace Go.Proofs.Ytefmlddbkmgliaa
/- THE CELL 'sum', in the pinned program and in every row, IS THE sha256 OF THE DUMP (.gsa) THAT YtefmlddbkmgliaaProg.lean LOADS. Nothing in Lean hashes anything: it is a label: what it is worth is what the hold of that sum in a sandbox is worth. -/
noncomputable def Try.pinned : Pinned := { name := "ytefmlddbkmgliaa", sum := "4477fb5db9d2e22d1aa7313bc7887714c77e01a55b4e2617e19ca1c2d166bbac", checked := Try.checked }
namespace Rows
def none {H : Type} : Left H := { results := [], args := [] }

/-- 'allongelaw40.KiteTells': WHATEVER THE INPUT: true; the input reads as it did. -/
def kiteTellsSpec : ChangeSpec := { name := "kiteTells", fn := fun _ => fun
  | [d1, d2, d3] => { results := [.lit (.bool true)], args := [d1, d2, d3] }
  | _ => none }
def kiteTellsRow : OpenClaim := { program := "ytefmlddbkmgliaa", sum := "4477fb5db9d2e22d1aa7313bc7887714c77e01a55b4e2617e19ca1c2d166bbac", func := "allonge/allongelaw40.KiteTells", spec := "kiteTells", unfollowed := true, recurses := true, apart := false }
def KiteTellsSaid : Prop := kiteTellsRow.holds Try.pinned (OpenSpec.ofChange kiteTellsSpec)

/-- ITS FALSE NEIGHBOUR: 'it returns false'. Refute it at one input. -/
def kiteTellsWrong : ChangeSpec := { name := "kiteTells", fn := fun _ => fun
  | [d1, d2, d3] => { results := [.lit (.bool false)], args := [d1, d2, d3] }
  | _ => none }
def KiteTellsWrongFalsely : Prop := kiteTellsRow.holds Try.pinned (OpenSpec.ofChange kiteTellsWrong)

/-- 'allongelaw40.KiteProves': WHATEVER THE INPUT: true; the input reads as it did. -/
def kiteProvesSpec : ChangeSpec := { name := "kiteProves", fn := fun _ => fun
  | [d] => { results := [.lit (.bool true)], args := [d] }
  | _ => none }
def kiteProvesRow : OpenClaim := { program := "ytefmlddbkmgliaa", sum := "4477fb5db9d2e22d1aa7313bc7887714c77e01a55b4e2617e19ca1c2d166bbac", func := "allonge/allongelaw40.KiteProves", spec := "kiteProves", unfollowed := true, recurses := true, apart := false }
def KiteProvesSaid : Prop := kiteProvesRow.holds Try.pinned (OpenSpec.ofChange kiteProvesSpec)

/-- ITS FALSE NEIGHBOUR: 'it returns false'. Refute it at one input. -/
def kiteProvesWrong : ChangeSpec := { name := "kiteProves", fn := fun _ => fun
  | [d] => { results := [.lit (.bool false)], args := [d] }
  | _ => none }
def KiteProvesWrongFalsely : Prop := kiteProvesRow.holds Try.pinned (OpenSpec.ofChange kiteProvesWrong)

/-- 'allongelaw40.KiteFinds': WHATEVER THE INPUT: true; the input reads as it did. -/
def kiteFindsSpec : ChangeSpec := { name := "kiteFinds", fn := fun _ => fun
  | [d1, d2, d3] => { results := [.lit (.bool true)], args := [d1, d2, d3] }
  | _ => none }
def kiteFindsRow : OpenClaim := { program := "ytefmlddbkmgliaa", sum := "4477fb5db9d2e22d1aa7313bc7887714c77e01a55b4e2617e19ca1c2d166bbac", func := "allonge/allongelaw40.KiteFinds", spec := "kiteFinds", unfollowed := true, recurses := true, apart := false }
def KiteFindsSaid : Prop := kiteFindsRow.holds Try.pinned (OpenSpec.ofChange kiteFindsSpec)

/-- ITS FALSE NEIGHBOUR: 'it returns false'. Refute it at one input. -/
def kiteFindsWrong : ChangeSpec := { name := "kiteFinds", fn := fun _ => fun
  | [d1, d2, d3] => { results := [.lit (.bool false)], args := [d1, d2, d3] }
  | _ => none }
def KiteFindsWrongFalsely : Prop := kiteFindsRow.holds Try.pinned (OpenSpec.ofChange kiteFindsWrong)

/-- 'allongelaw40.KiteRings': WHATEVER THE INPUT: true; the input reads as it did. -/
def kiteRingsSpec : ChangeSpec := { name := "kiteRings", fn := fun _ => fun
  | [d] => { results := [.lit (.bool true)], args := [d] }
  | _ => none }
def kiteRingsRow : OpenClaim := { program := "ytefmlddbkmgliaa", sum := "4477fb5db9d2e22d1aa7313bc7887714c77e01a55b4e2617e19ca1c2d166bbac", func := "allonge/allongelaw40.KiteRings", spec := "kiteRings", unfollowed := true, recurses := true, apart := false }
def KiteRingsSaid : Prop := kiteRingsRow.holds Try.pinned (OpenSpec.ofChange kiteRingsSpec)

/-- ITS FALSE NEIGHBOUR: 'it returns false'. Refute it at one input. -/
def kiteRingsWrong : ChangeSpec := { name := "kiteRings", fn := fun _ => fun
  | [d] => { results := [.lit (.bool false)], args := [d] }
  | _ => none }
def KiteRingsWrongFalsely : Prop := kiteRingsRow.holds Try.pinned (OpenSpec.ofChange kiteRingsWrong)

/-- 'allongelaw40.KiteBreaks': WHATEVER THE INPUT: true; the input reads as it did. -/
def kiteBreaksSpec : ChangeSpec := { name := "kiteBreaks", fn := fun _ => fun
  | [d1, d2, d3] => { results := [.lit (.bool true)], args := [d1, d2, d3] }
  | _ => none }
def kiteBreaksRow : OpenClaim := { program := "ytefmlddbkmgliaa", sum := "4477fb5db9d2e22d1aa7313bc7887714c77e01a55b4e2617e19ca1c2d166bbac", func := "allonge/allongelaw40.KiteBreaks", spec := "kiteBreaks", unfollowed := true, recurses := true, apart := false }
def KiteBreaksSaid : Prop := kiteBreaksRow.holds Try.pinned (OpenSpec.ofChange kiteBreaksSpec)

/-- ITS FALSE NEIGHBOUR: 'it returns false'. Refute it at one input. -/
def kiteBreaksWrong : ChangeSpec := { name := "kiteBreaks", fn := fun _ => fun
  | [d1, d2, d3] => { results := [.lit (.bool false)], args := [d1, d2, d3] }
  | _ => none }
def KiteBreaksWrongFalsely : Prop := kiteBreaksRow.holds Try.pinned (OpenSpec.ofChange kiteBreaksWrong)

/- THE SECOND FORM. 'bulk': how many values and letters a reading holds, each counted each time it is reached (what is shared counts as often as it is met; a slice's spare places count too). A statement '..UptoSaid' is the law's where the arguments, and the package variables that the reading takes, are together of bulk at most 1048576: NARROWER than '..Said'. Prove '..Said' where nothing that the law and all that it calls make is longer than what came in: it says more and counts as full. Else prove '..UptoSaid'. A law counts once. -/
mutual
def uptoBulk {H : Type} : DataW H → Nat
  | .lit (.string bytes) => bytes.length + 1
  | .lit _ => 1
  | .nil => 1
  | .ptr d => uptoBulk d + 1
  | .slice elems spare => uptoBulkAll elems + uptoBulkAll spare + 1
  | .agg parts => uptoBulkAll parts + 1
  | .iface _ d => uptoBulk d + 1
  | .map entries => uptoBulkEntries entries + 1
  | .held _ => 1
def uptoBulkAll {H : Type} : List (DataW H) → Nat
  | [] => 0
  | d :: r => uptoBulk d + uptoBulkAll r
def uptoBulkEntries {H : Type} : List (Lit × DataW H) → Nat
  | [] => 0
  | x :: r => uptoBulkEntry x + uptoBulkEntries r
def uptoBulkEntry {H : Type} : Lit × DataW H → Nat
  | (.string bytes, d) => bytes.length + uptoBulk d + 1
  | (_, d) => uptoBulk d + 1
 end
def uptoSmall : (H : Type) → List (DataW H) → Bool := fun _ ds => decide (uptoBulkAll ds ≤ 1048576)
def OpenSpec.upto (s : _root_.Go.ChangeSpec) : _root_.Go.OpenSpec := { _root_.Go.OpenSpec.ofChange s with cond := some uptoSmall }

/-- 'allongelaw40.KiteTells', WHERE WHAT IT READS IS OF BULK AT MOST 1048576: true; the input reads as it did. -/
def kiteTellsUptoRow : OpenClaim := { program := "ytefmlddbkmgliaa", sum := "4477fb5db9d2e22d1aa7313bc7887714c77e01a55b4e2617e19ca1c2d166bbac", func := "allonge/allongelaw40.KiteTells", spec := "kiteTells", unfollowed := true, recurses := true, apart := false, narrowed := true }
def KiteTellsUptoSaid : Prop := kiteTellsUptoRow.holds Try.pinned (OpenSpec.upto kiteTellsSpec)

/-- 'allongelaw40.KiteProves', WHERE WHAT IT READS IS OF BULK AT MOST 1048576: true; the input reads as it did. -/
def kiteProvesUptoRow : OpenClaim := { program := "ytefmlddbkmgliaa", sum := "4477fb5db9d2e22d1aa7313bc7887714c77e01a55b4e2617e19ca1c2d166bbac", func := "allonge/allongelaw40.KiteProves", spec := "kiteProves", unfollowed := true, recurses := true, apart := false, narrowed := true }
def KiteProvesUptoSaid : Prop := kiteProvesUptoRow.holds Try.pinned (OpenSpec.upto kiteProvesSpec)

/-- 'allongelaw40.KiteFinds', WHERE WHAT IT READS IS OF BULK AT MOST 1048576: true; the input reads as it did. -/
def kiteFindsUptoRow : OpenClaim := { program := "ytefmlddbkmgliaa", sum := "4477fb5db9d2e22d1aa7313bc7887714c77e01a55b4e2617e19ca1c2d166bbac", func := "allonge/allongelaw40.KiteFinds", spec := "kiteFinds", unfollowed := true, recurses := true, apart := false, narrowed := true }
def KiteFindsUptoSaid : Prop := kiteFindsUptoRow.holds Try.pinned (OpenSpec.upto kiteFindsSpec)

/-- 'allongelaw40.KiteRings', WHERE WHAT IT READS IS OF BULK AT MOST 1048576: true; the input reads as it did. -/
def kiteRingsUptoRow : OpenClaim := { program := "ytefmlddbkmgliaa", sum := "4477fb5db9d2e22d1aa7313bc7887714c77e01a55b4e2617e19ca1c2d166bbac", func := "allonge/allongelaw40.KiteRings", spec := "kiteRings", unfollowed := true, recurses := true, apart := false, narrowed := true }
def KiteRingsUptoSaid : Prop := kiteRingsUptoRow.holds Try.pinned (OpenSpec.upto kiteRingsSpec)

/-- 'allongelaw40.KiteBreaks', WHERE WHAT IT READS IS OF BULK AT MOST 1048576: true; the input reads as it did. -/
def kiteBreaksUptoRow : OpenClaim := { program := "ytefmlddbkmgliaa", sum := "4477fb5db9d2e22d1aa7313bc7887714c77e01a55b4e2617e19ca1c2d166bbac", func := "allonge/allongelaw40.KiteBreaks", spec := "kiteBreaks", unfollowed := true, recurses := true, apart := false, narrowed := true }
def KiteBreaksUptoSaid : Prop := kiteBreaksUptoRow.holds Try.pinned (OpenSpec.upto kiteBreaksSpec)

end Rows
end Go.Proofs.Ytefmlddbkmgliaa
