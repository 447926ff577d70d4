/-
  NARROWER THAN 'FOR EVERY INPUT', by the rows' own cells (each row's printed sentence says how): OrderTells: loops, laid · OrderKnows: loops, laid · OrderNeeds: loops, laid · OrderAlone: loops, laid.
  DERIVED. THE GIVEN ROWS OF THIS SEAT. 4 by the template 'for every input the law returns true; each argument reads behind the call as it read before'; 0 by the template 'total and deterministic' (their statements: YtdanjbnklaaehaaDoorTotals.lean).
  GIVEN WITH THE SEED: the statements are not yours to turn. If you find one false, say at which input.
  Laid BY PROGRAM, IN A SANDBOX (cutbox-rows.mjs): the forced cells as the released guide's own fill.sh prints them over the translation 77f3ea19132d1b50… (all of the seat's roots in one cut). By AI agents, Wed Nov 11 2026. No macro, syntax, notation, axiom, sorry.
-/
import Derived.Test.YtdanjbnklaaehaaDoorChecked
import GoSem.Claim
import GoSem.ClaimJoined
import GoSem.ClaimMapViews
import Derived.JoinedTies
import Derived.KernelRfl
namespace Go.Proofs.YtdanjbnklaaehaaDoor
/- THE CELL 'sum', in the pinned program and in every row, IS THE sha256 OF THE DUMP (.gsa) THAT YtdanjbnklaaehaaDoorProg.lean LOADS. Nothing in Lean hashes anything: it is a label: what it is worth is what the hold of that sum in a sandbox is worth. -/
noncomputable def Tryd.pinned : Pinned := { name := "ytdanjbnklaaehaadoor", sum := "77f3ea19132d1b50fecf37e380665eb11adf01ff1e54d718d8d86000f519cc6a", checked := Tryd.checked }
namespace Rows
def none {H : Type} : Left H := { results := [], args := [] }

/- WHAT THE LISTED PACKAGE-LEVEL VARIABLES READ AS WHEN THE CALL BEGINS. Each datum BY PROGRAM (the guide's laid-datum.mjs) off the statement by which the dump's own 'gosem.cut.vars' lays the variable. In a bare row this is a premise. The card (YtdanjbnklaaehaaDoorCards.lean) ties it to the program's text. -/
def laid_allonge_order_numbers {H : Type} : DataW H := .agg [.lit (.int .i64 6), .lit (.int .i64 7), .lit (.int .i64 10), .lit (.int .i64 12), .lit (.int .i64 13), .lit (.int .i64 14), .lit (.int .i64 15), .lit (.int .i64 16), .lit (.int .i64 20), .lit (.int .i64 21)]

/-- 'allongelaw18.OrderTells': WHATEVER THE INPUT: true; the input reads as it did. -/
def orderTellsSpec : ChangeSpec := { name := "orderTells", fn := fun _ => fun
  | [d1, d2, d3] => { results := [.lit (.bool true)], args := [d1, d2, d3] }
  | _ => none }
def orderTellsRow : OpenClaim := { program := "ytdanjbnklaaehaadoor", sum := "77f3ea19132d1b50fecf37e380665eb11adf01ff1e54d718d8d86000f519cc6a", func := "allonge/allongelaw18.OrderTells", spec := "orderTells", unfollowed := true, recurses := true, named := ["allonge/order.numbers"], loops := true, apart := false, laid := [("allonge/order.numbers", laid_allonge_order_numbers)] }
def OrderTellsSaid : Prop := orderTellsRow.holds Tryd.pinned (OpenSpec.ofChange orderTellsSpec)

/-- ITS FALSE NEIGHBOUR: 'it returns false'. Refute it at one input. -/
def orderTellsWrong : ChangeSpec := { name := "orderTells", fn := fun _ => fun
  | [d1, d2, d3] => { results := [.lit (.bool false)], args := [d1, d2, d3] }
  | _ => none }
def OrderTellsWrongFalsely : Prop := orderTellsRow.holds Tryd.pinned (OpenSpec.ofChange orderTellsWrong)

/-- 'allongelaw18.OrderKnows': WHATEVER THE INPUT: true; the input reads as it did. -/
def orderKnowsSpec : ChangeSpec := { name := "orderKnows", fn := fun _ => fun
  | [d1, d2, d3, d4] => { results := [.lit (.bool true)], args := [d1, d2, d3, d4] }
  | _ => none }
def orderKnowsRow : OpenClaim := { program := "ytdanjbnklaaehaadoor", sum := "77f3ea19132d1b50fecf37e380665eb11adf01ff1e54d718d8d86000f519cc6a", func := "allonge/allongelaw18.OrderKnows", spec := "orderKnows", unfollowed := true, recurses := true, named := ["allonge/order.numbers"], loops := true, apart := false, laid := [("allonge/order.numbers", laid_allonge_order_numbers)] }
def OrderKnowsSaid : Prop := orderKnowsRow.holds Tryd.pinned (OpenSpec.ofChange orderKnowsSpec)

/-- ITS FALSE NEIGHBOUR: 'it returns false'. Refute it at one input. -/
def orderKnowsWrong : ChangeSpec := { name := "orderKnows", fn := fun _ => fun
  | [d1, d2, d3, d4] => { results := [.lit (.bool false)], args := [d1, d2, d3, d4] }
  | _ => none }
def OrderKnowsWrongFalsely : Prop := orderKnowsRow.holds Tryd.pinned (OpenSpec.ofChange orderKnowsWrong)

/-- 'allongelaw18.OrderNeeds': WHATEVER THE INPUT: true; the input reads as it did. -/
def orderNeedsSpec : ChangeSpec := { name := "orderNeeds", fn := fun _ => fun
  | [d1, d2, d3, d4] => { results := [.lit (.bool true)], args := [d1, d2, d3, d4] }
  | _ => none }
def orderNeedsRow : OpenClaim := { program := "ytdanjbnklaaehaadoor", sum := "77f3ea19132d1b50fecf37e380665eb11adf01ff1e54d718d8d86000f519cc6a", func := "allonge/allongelaw18.OrderNeeds", spec := "orderNeeds", unfollowed := true, recurses := true, named := ["allonge/order.numbers"], loops := true, apart := false, laid := [("allonge/order.numbers", laid_allonge_order_numbers)] }
def OrderNeedsSaid : Prop := orderNeedsRow.holds Tryd.pinned (OpenSpec.ofChange orderNeedsSpec)

/-- ITS FALSE NEIGHBOUR: 'it returns false'. Refute it at one input. -/
def orderNeedsWrong : ChangeSpec := { name := "orderNeeds", fn := fun _ => fun
  | [d1, d2, d3, d4] => { results := [.lit (.bool false)], args := [d1, d2, d3, d4] }
  | _ => none }
def OrderNeedsWrongFalsely : Prop := orderNeedsRow.holds Tryd.pinned (OpenSpec.ofChange orderNeedsWrong)

/-- 'allongelaw18.OrderAlone': WHATEVER THE INPUT: true; the input reads as it did. -/
def orderAloneSpec : ChangeSpec := { name := "orderAlone", fn := fun _ => fun
  | [d1, d2, d3, d4, d5, d6] => { results := [.lit (.bool true)], args := [d1, d2, d3, d4, d5, d6] }
  | _ => none }
def orderAloneRow : OpenClaim := { program := "ytdanjbnklaaehaadoor", sum := "77f3ea19132d1b50fecf37e380665eb11adf01ff1e54d718d8d86000f519cc6a", func := "allonge/allongelaw18.OrderAlone", spec := "orderAlone", unfollowed := true, recurses := true, named := ["allonge/order.numbers"], loops := true, apart := false, laid := [("allonge/order.numbers", laid_allonge_order_numbers)] }
def OrderAloneSaid : Prop := orderAloneRow.holds Tryd.pinned (OpenSpec.ofChange orderAloneSpec)

/-- ITS FALSE NEIGHBOUR: 'it returns false'. Refute it at one input. -/
def orderAloneWrong : ChangeSpec := { name := "orderAlone", fn := fun _ => fun
  | [d1, d2, d3, d4, d5, d6] => { results := [.lit (.bool false)], args := [d1, d2, d3, d4, d5, d6] }
  | _ => none }
def OrderAloneWrongFalsely : Prop := orderAloneRow.holds Tryd.pinned (OpenSpec.ofChange orderAloneWrong)

/- THE SECOND FORM. 'bulk': how many values and letters a reading holds, each counted each time it is reached (what is shared counts as often as it is met; a slice's spare places count too). A statement '..UptoSaid' is the law's where the arguments, and the package variables that the reading takes, are together of bulk at most 1048576: NARROWER than '..Said'. Prove '..Said' where nothing that the law and all that it calls make is longer than what came in: it says more and counts as full. Else prove '..UptoSaid'. A law counts once. -/
mutual
def uptoBulk {H : Type} : DataW H → Nat
  | .lit (.string bytes) => bytes.length + 1
  | .lit _ => 1
  | .nil => 1
  | .ptr d => uptoBulk d + 1
  | .slice elems spare => uptoBulkAll elems + uptoBulkAll spare + 1
  | .agg parts => uptoBulkAll parts + 1
  | .iface _ d => uptoBulk d + 1
  | .map entries => uptoBulkEntries entries + 1
  | .held _ => 1
def uptoBulkAll {H : Type} : List (DataW H) → Nat
  | [] => 0
  | d :: r => uptoBulk d + uptoBulkAll r
def uptoBulkEntries {H : Type} : List (Lit × DataW H) → Nat
  | [] => 0
  | x :: r => uptoBulkEntry x + uptoBulkEntries r
def uptoBulkEntry {H : Type} : Lit × DataW H → Nat
  | (.string bytes, d) => bytes.length + uptoBulk d + 1
  | (_, d) => uptoBulk d + 1
 end
def uptoSmall : (H : Type) → List (DataW H) → Bool := fun _ ds => decide (uptoBulkAll ds ≤ 1048576)
def OpenSpec.upto (s : _root_.Go.ChangeSpec) : _root_.Go.OpenSpec := { _root_.Go.OpenSpec.ofChange s with cond := some uptoSmall }

/-- 'allongelaw18.OrderTells', WHERE WHAT IT READS IS OF BULK AT MOST 1048576: true; the input reads as it did. -/
def orderTellsUptoRow : OpenClaim := { program := "ytdanjbnklaaehaadoor", sum := "77f3ea19132d1b50fecf37e380665eb11adf01ff1e54d718d8d86000f519cc6a", func := "allonge/allongelaw18.OrderTells", spec := "orderTells", unfollowed := true, recurses := true, named := ["allonge/order.numbers"], loops := true, apart := false, laid := [("allonge/order.numbers", laid_allonge_order_numbers)], narrowed := true }
def OrderTellsUptoSaid : Prop := orderTellsUptoRow.holds Tryd.pinned (OpenSpec.upto orderTellsSpec)

/-- 'allongelaw18.OrderKnows', WHERE WHAT IT READS IS OF BULK AT MOST 1048576: true; the input reads as it did. -/
def orderKnowsUptoRow : OpenClaim := { program := "ytdanjbnklaaehaadoor", sum := "77f3ea19132d1b50fecf37e380665eb11adf01ff1e54d718d8d86000f519cc6a", func := "allonge/allongelaw18.OrderKnows", spec := "orderKnows", unfollowed := true, recurses := true, named := ["allonge/order.numbers"], loops := true, apart := false, laid := [("allonge/order.numbers", laid_allonge_order_numbers)], narrowed := true }
def OrderKnowsUptoSaid : Prop := orderKnowsUptoRow.holds Tryd.pinned (OpenSpec.upto orderKnowsSpec)

/-- 'allongelaw18.OrderNeeds', WHERE WHAT IT READS IS OF BULK AT MOST 1048576: true; the input reads as it did. -/
def orderNeedsUptoRow : OpenClaim := { program := "ytdanjbnklaaehaadoor", sum := "77f3ea19132d1b50fecf37e380665eb11adf01ff1e54d718d8d86000f519cc6a", func := "allonge/allongelaw18.OrderNeeds", spec := "orderNeeds", unfollowed := true, recurses := true, named := ["allonge/order.numbers"], loops := true, apart := false, laid := [("allonge/order.numbers", laid_allonge_order_numbers)], narrowed := true }
def OrderNeedsUptoSaid : Prop := orderNeedsUptoRow.holds Tryd.pinned (OpenSpec.upto orderNeedsSpec)

/-- 'allongelaw18.OrderAlone', WHERE WHAT IT READS IS OF BULK AT MOST 1048576: true; the input reads as it did. -/
def orderAloneUptoRow : OpenClaim := { program := "ytdanjbnklaaehaadoor", sum := "77f3ea19132d1b50fecf37e380665eb11adf01ff1e54d718d8d86000f519cc6a", func := "allonge/allongelaw18.OrderAlone", spec := "orderAlone", unfollowed := true, recurses := true, named := ["allonge/order.numbers"], loops := true, apart := false, laid := [("allonge/order.numbers", laid_allonge_order_numbers)], narrowed := true }
def OrderAloneUptoSaid : Prop := orderAloneUptoRow.holds Tryd.pinned (OpenSpec.upto orderAloneSpec)

end Rows
end Go.Proofs.YtdanjbnklaaehaaDoor
