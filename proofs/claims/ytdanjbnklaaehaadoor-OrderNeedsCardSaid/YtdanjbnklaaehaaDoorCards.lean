/-
  DERIVED. GIVEN WITH THE SEED: THE CARDS: each row of YtdanjbnklaaehaaDoorRows.lean that lists a variable, with what it lists TIED to the program's text (the seventh form; the later family's looks); each row that meets fmt, with fmt's text TOLD by the authors' own Lean function (tested against real Go, not proved from fmt's source: count such statements apart). THE CARD IS WHAT COUNTS. Prove the row's statement (the work); the ties are given (YtdanjbnklaaehaaDoorTie.lean); close each card by the builder's one call (the guide's Derived/Test/ToyasCard.lean, 'card_holds'). Laid BY PROGRAM, IN A SANDBOX (cutbox-door.mjs). By AI agents, Wed Nov 11 2026. No macro, syntax, notation, axiom, sorry.
-/
import Derived.Test.YtdanjbnklaaehaaDoorRows
import GoSem.ClaimSeven
namespace Go.Proofs.YtdanjbnklaaehaaDoor
namespace Rows

/-- THE TIED CARD OF 'allongelaw18.OrderTells'. -/
def orderTellsCard : Claim7 := { stood := { row := orderTellsRow, standIns := [], harness := (true, "9738eeaca3e410484becac5ef0d65ca4c5ca516ae96ee127019c08b445b12c95"), looks := false }, kinds := [], alts := [], laidByText := true, laidKinds := [.widerDeep], laidTests := true, laidLooks := .later }
def OrderTellsCardSaid : Prop := Claim7.holds Tryd.pinned (.plain (OpenSpec.ofChange orderTellsSpec)) orderTellsCard

/-- THE TIED CARD OF 'allongelaw18.OrderKnows'. -/
def orderKnowsCard : Claim7 := { stood := { row := orderKnowsRow, standIns := [], harness := (true, "9738eeaca3e410484becac5ef0d65ca4c5ca516ae96ee127019c08b445b12c95"), looks := false }, kinds := [], alts := [], laidByText := true, laidKinds := [.widerDeep], laidTests := true, laidLooks := .later }
def OrderKnowsCardSaid : Prop := Claim7.holds Tryd.pinned (.plain (OpenSpec.ofChange orderKnowsSpec)) orderKnowsCard

/-- THE TIED CARD OF 'allongelaw18.OrderNeeds'. -/
def orderNeedsCard : Claim7 := { stood := { row := orderNeedsRow, standIns := [], harness := (true, "9738eeaca3e410484becac5ef0d65ca4c5ca516ae96ee127019c08b445b12c95"), looks := false }, kinds := [], alts := [], laidByText := true, laidKinds := [.widerDeep], laidTests := true, laidLooks := .later }
def OrderNeedsCardSaid : Prop := Claim7.holds Tryd.pinned (.plain (OpenSpec.ofChange orderNeedsSpec)) orderNeedsCard

/-- THE TIED CARD OF 'allongelaw18.OrderAlone'. -/
def orderAloneCard : Claim7 := { stood := { row := orderAloneRow, standIns := [], harness := (true, "9738eeaca3e410484becac5ef0d65ca4c5ca516ae96ee127019c08b445b12c95"), looks := false }, kinds := [], alts := [], laidByText := true, laidKinds := [.widerDeep], laidTests := true, laidLooks := .later }
def OrderAloneCardSaid : Prop := Claim7.holds Tryd.pinned (.plain (OpenSpec.ofChange orderAloneSpec)) orderAloneCard

/-- THE SECOND FORM's CARD OF 'allongelaw18.OrderTells'. -/
def orderTellsUptoCard : Claim7 := { stood := { row := orderTellsUptoRow, standIns := [], harness := (true, "9738eeaca3e410484becac5ef0d65ca4c5ca516ae96ee127019c08b445b12c95"), looks := false }, kinds := [], alts := [], laidByText := true, laidKinds := [.widerDeep], laidTests := true, laidLooks := .later }
def OrderTellsUptoCardSaid : Prop := Claim7.holds Tryd.pinned (.plain (OpenSpec.upto orderTellsSpec)) orderTellsUptoCard

/-- THE SECOND FORM's CARD OF 'allongelaw18.OrderKnows'. -/
def orderKnowsUptoCard : Claim7 := { stood := { row := orderKnowsUptoRow, standIns := [], harness := (true, "9738eeaca3e410484becac5ef0d65ca4c5ca516ae96ee127019c08b445b12c95"), looks := false }, kinds := [], alts := [], laidByText := true, laidKinds := [.widerDeep], laidTests := true, laidLooks := .later }
def OrderKnowsUptoCardSaid : Prop := Claim7.holds Tryd.pinned (.plain (OpenSpec.upto orderKnowsSpec)) orderKnowsUptoCard

/-- THE SECOND FORM's CARD OF 'allongelaw18.OrderNeeds'. -/
def orderNeedsUptoCard : Claim7 := { stood := { row := orderNeedsUptoRow, standIns := [], harness := (true, "9738eeaca3e410484becac5ef0d65ca4c5ca516ae96ee127019c08b445b12c95"), looks := false }, kinds := [], alts := [], laidByText := true, laidKinds := [.widerDeep], laidTests := true, laidLooks := .later }
def OrderNeedsUptoCardSaid : Prop := Claim7.holds Tryd.pinned (.plain (OpenSpec.upto orderNeedsSpec)) orderNeedsUptoCard

/-- THE SECOND FORM's CARD OF 'allongelaw18.OrderAlone'. -/
def orderAloneUptoCard : Claim7 := { stood := { row := orderAloneUptoRow, standIns := [], harness := (true, "9738eeaca3e410484becac5ef0d65ca4c5ca516ae96ee127019c08b445b12c95"), looks := false }, kinds := [], alts := [], laidByText := true, laidKinds := [.widerDeep], laidTests := true, laidLooks := .later }
def OrderAloneUptoCardSaid : Prop := Claim7.holds Tryd.pinned (.plain (OpenSpec.upto orderAloneSpec)) orderAloneUptoCard
end Rows
end Go.Proofs.YtdanjbnklaaehaaDoor
