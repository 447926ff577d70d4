/-
  DERIVED. GIVEN WITH THE SEED: THE CARDS: each row of YtcibefohnikdeaaDoorRows.lean that lists a variable, with what it lists TIED to the program's text (the seventh form; the later family's looks); each row that meets fmt, with fmt's text TOLD by the authors' own Lean function (tested against real Go, not proved from fmt's source: count such statements apart). THE CARD IS WHAT COUNTS. Prove the row's statement (the work); the ties are given (YtcibefohnikdeaaDoorTie.lean); close each card by the builder's one call (the guide's Derived/Test/ToyasCard.lean, 'card_holds'). Laid BY PROGRAM, IN A SANDBOX (cutbox-door.mjs). By AI agents, Wed Nov 11 2026. No macro, syntax, notation, axiom, sorry.
-/
import Derived.Test.YtcibefohnikdeaaDoorRows
import GoSem.ClaimSeven
namespace Go.Proofs.YtcibefohnikdeaaDoor
namespace Rows

/-- THE TIED CARD OF 'allongelaw01.WireTells'. -/
def wireTellsCard : Claim7 := { stood := { row := wireTellsRow, standIns := [], harness := (true, "60b7d49746cb9dda0f3c6955306cf48ba23136288eb640482f31136cfa6ad29d"), looks := true }, kinds := [], alts := [], laidByText := true, laidKinds := [.data, .data, .data, .sentinel, .sentinel], laidTests := true, laidLooks := .later }
def WireTellsCardSaid : Prop := Claim7.holds Tryd.pinned (.plain (OpenSpec.ofChange wireTellsSpec)) wireTellsCard

/-- THE TIED CARD OF 'allongelaw01.WireBack'. -/
def wireBackCard : Claim7 := { stood := { row := wireBackRow, standIns := [], harness := (true, "60b7d49746cb9dda0f3c6955306cf48ba23136288eb640482f31136cfa6ad29d"), looks := true }, kinds := [], alts := [], laidByText := true, laidKinds := [.data, .data, .data, .sentinel, .sentinel], laidTests := true, laidLooks := .later }
def WireBackCardSaid : Prop := Claim7.holds Tryd.pinned (.plain (OpenSpec.ofChange wireBackSpec)) wireBackCard

/-- THE TIED CARD OF 'allongelaw01.WireOnly'. -/
def wireOnlyCard : Claim7 := { stood := { row := wireOnlyRow, standIns := [], harness := (true, "60b7d49746cb9dda0f3c6955306cf48ba23136288eb640482f31136cfa6ad29d"), looks := true }, kinds := [], alts := [], laidByText := true, laidKinds := [.data, .data, .data, .sentinel, .sentinel], laidTests := true, laidLooks := .later }
def WireOnlyCardSaid : Prop := Claim7.holds Tryd.pinned (.plain (OpenSpec.ofChange wireOnlySpec)) wireOnlyCard

/-- THE TIED CARD OF 'allongelaw01.WireCut'. -/
def wireCutCard : Claim7 := { stood := { row := wireCutRow, standIns := [], harness := (true, "60b7d49746cb9dda0f3c6955306cf48ba23136288eb640482f31136cfa6ad29d"), looks := true }, kinds := [], alts := [], laidByText := true, laidKinds := [.data, .data, .data, .sentinel, .sentinel], laidTests := true, laidLooks := .later }
def WireCutCardSaid : Prop := Claim7.holds Tryd.pinned (.plain (OpenSpec.ofChange wireCutSpec)) wireCutCard

/-- THE TIED CARD OF 'allongelaw01.WireNests'. -/
def wireNestsCard : Claim7 := { stood := { row := wireNestsRow, standIns := [], harness := (true, "60b7d49746cb9dda0f3c6955306cf48ba23136288eb640482f31136cfa6ad29d"), looks := true }, kinds := [], alts := [], laidByText := true, laidKinds := [.data, .data, .data, .sentinel, .sentinel], laidTests := true, laidLooks := .later }
def WireNestsCardSaid : Prop := Claim7.holds Tryd.pinned (.plain (OpenSpec.ofChange wireNestsSpec)) wireNestsCard

/-- THE SECOND FORM's CARD OF 'allongelaw01.WireTells'. -/
def wireTellsUptoCard : Claim7 := { stood := { row := wireTellsUptoRow, standIns := [], harness := (true, "60b7d49746cb9dda0f3c6955306cf48ba23136288eb640482f31136cfa6ad29d"), looks := true }, kinds := [], alts := [], laidByText := true, laidKinds := [.data, .data, .data, .sentinel, .sentinel], laidTests := true, laidLooks := .later }
def WireTellsUptoCardSaid : Prop := Claim7.holds Tryd.pinned (.plain (OpenSpec.upto wireTellsSpec)) wireTellsUptoCard

/-- THE SECOND FORM's CARD OF 'allongelaw01.WireBack'. -/
def wireBackUptoCard : Claim7 := { stood := { row := wireBackUptoRow, standIns := [], harness := (true, "60b7d49746cb9dda0f3c6955306cf48ba23136288eb640482f31136cfa6ad29d"), looks := true }, kinds := [], alts := [], laidByText := true, laidKinds := [.data, .data, .data, .sentinel, .sentinel], laidTests := true, laidLooks := .later }
def WireBackUptoCardSaid : Prop := Claim7.holds Tryd.pinned (.plain (OpenSpec.upto wireBackSpec)) wireBackUptoCard

/-- THE SECOND FORM's CARD OF 'allongelaw01.WireOnly'. -/
def wireOnlyUptoCard : Claim7 := { stood := { row := wireOnlyUptoRow, standIns := [], harness := (true, "60b7d49746cb9dda0f3c6955306cf48ba23136288eb640482f31136cfa6ad29d"), looks := true }, kinds := [], alts := [], laidByText := true, laidKinds := [.data, .data, .data, .sentinel, .sentinel], laidTests := true, laidLooks := .later }
def WireOnlyUptoCardSaid : Prop := Claim7.holds Tryd.pinned (.plain (OpenSpec.upto wireOnlySpec)) wireOnlyUptoCard

/-- THE SECOND FORM's CARD OF 'allongelaw01.WireCut'. -/
def wireCutUptoCard : Claim7 := { stood := { row := wireCutUptoRow, standIns := [], harness := (true, "60b7d49746cb9dda0f3c6955306cf48ba23136288eb640482f31136cfa6ad29d"), looks := true }, kinds := [], alts := [], laidByText := true, laidKinds := [.data, .data, .data, .sentinel, .sentinel], laidTests := true, laidLooks := .later }
def WireCutUptoCardSaid : Prop := Claim7.holds Tryd.pinned (.plain (OpenSpec.upto wireCutSpec)) wireCutUptoCard

/-- THE SECOND FORM's CARD OF 'allongelaw01.WireNests'. -/
def wireNestsUptoCard : Claim7 := { stood := { row := wireNestsUptoRow, standIns := [], harness := (true, "60b7d49746cb9dda0f3c6955306cf48ba23136288eb640482f31136cfa6ad29d"), looks := true }, kinds := [], alts := [], laidByText := true, laidKinds := [.data, .data, .data, .sentinel, .sentinel], laidTests := true, laidLooks := .later }
def WireNestsUptoCardSaid : Prop := Claim7.holds Tryd.pinned (.plain (OpenSpec.upto wireNestsSpec)) wireNestsUptoCard
end Rows
end Go.Proofs.YtcibefohnikdeaaDoor
