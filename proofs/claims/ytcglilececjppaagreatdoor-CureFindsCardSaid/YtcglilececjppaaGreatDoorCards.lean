/-
  DERIVED. GIVEN WITH THE SEED: THE CARDS: each row of YtcglilececjppaaGreatDoorRows.lean that lists a variable, with what it lists TIED to the program's text (the seventh form; the later family's looks); each row that meets fmt, with fmt's text TOLD by the authors' own Lean function (tested against real Go, not proved from fmt's source: count such statements apart). THE CARD IS WHAT COUNTS. Prove the row's statement (the work); the ties are given (YtcglilececjppaaGreatDoorTie.lean); close each card by the builder's one call (the guide's Derived/Test/ToyasCard.lean, 'card_holds'). Laid BY PROGRAM, IN A SANDBOX (cutbox-door.mjs). By AI agents, Wed Nov 11 2026. No macro, syntax, notation, axiom, sorry.
-/
import Derived.Test.YtcglilececjppaaGreatDoorRows
import GoSem.ClaimSeven
namespace Go.Proofs.YtcglilececjppaaGreatDoor
namespace Rows

/-- THE TIED CARD OF 'allongelaw35.CureTells'. -/
def cureTellsCard : Claim7 := { stood := { row := cureTellsRow, standIns := [], harness := (true, "6860a85a6cd37ec49f6e4ad9d4171c247bffd7e41d42ab5d64ad84c82435105d"), looks := false }, kinds := [], alts := [], laidByText := true, laidKinds := [.data, .data, .data, .data, .pinned], laidTests := true, laidLooks := .later }
def CureTellsCardSaid : Prop := Claim7.holds Tryz.pinned (.plain (OpenSpec.ofChange cureTellsSpec)) cureTellsCard

/-- THE TIED CARD OF 'allongelaw35.CureHits'. -/
def cureHitsCard : Claim7 := { stood := { row := cureHitsRow, standIns := [], harness := (true, "6860a85a6cd37ec49f6e4ad9d4171c247bffd7e41d42ab5d64ad84c82435105d"), looks := false }, kinds := [], alts := [], laidByText := true, laidKinds := [.data, .data, .data, .data, .pinned], laidTests := true, laidLooks := .later }
def CureHitsCardSaid : Prop := Claim7.holds Tryz.pinned (.plain (OpenSpec.ofChange cureHitsSpec)) cureHitsCard

/-- THE TIED CARD OF 'allongelaw35.CureWaives'. -/
def cureWaivesCard : Claim7 := { stood := { row := cureWaivesRow, standIns := [], harness := (true, "6860a85a6cd37ec49f6e4ad9d4171c247bffd7e41d42ab5d64ad84c82435105d"), looks := false }, kinds := [], alts := [], laidByText := true, laidKinds := [.data, .data, .data, .data, .pinned], laidTests := true, laidLooks := .later }
def CureWaivesCardSaid : Prop := Claim7.holds Tryz.pinned (.plain (OpenSpec.ofChange cureWaivesSpec)) cureWaivesCard

/-- THE TIED CARD OF 'allongelaw35.CureCorrects'. -/
def cureCorrectsCard : Claim7 := { stood := { row := cureCorrectsRow, standIns := [], harness := (true, "6860a85a6cd37ec49f6e4ad9d4171c247bffd7e41d42ab5d64ad84c82435105d"), looks := false }, kinds := [], alts := [], laidByText := true, laidKinds := [.data, .data, .data, .data, .pinned], laidTests := true, laidLooks := .later }
def CureCorrectsCardSaid : Prop := Claim7.holds Tryz.pinned (.plain (OpenSpec.ofChange cureCorrectsSpec)) cureCorrectsCard

/-- THE TIED CARD OF 'allongelaw35.CureFinds'. -/
def cureFindsCard : Claim7 := { stood := { row := cureFindsRow, standIns := [], harness := (true, "6860a85a6cd37ec49f6e4ad9d4171c247bffd7e41d42ab5d64ad84c82435105d"), looks := false }, kinds := [], alts := [], laidByText := true, laidKinds := [.data, .data, .data, .data, .pinned], laidTests := true, laidLooks := .later }
def CureFindsCardSaid : Prop := Claim7.holds Tryz.pinned (.plain (OpenSpec.ofChange cureFindsSpec)) cureFindsCard

/-- THE TIED CARD OF 'allongelaw35.CureKeeps'. -/
def cureKeepsCard : Claim7 := { stood := { row := cureKeepsRow, standIns := [], harness := (true, "6860a85a6cd37ec49f6e4ad9d4171c247bffd7e41d42ab5d64ad84c82435105d"), looks := false }, kinds := [], alts := [], laidByText := true, laidKinds := [.data, .data, .data, .data, .pinned], laidTests := true, laidLooks := .later }
def CureKeepsCardSaid : Prop := Claim7.holds Tryz.pinned (.plain (OpenSpec.ofChange cureKeepsSpec)) cureKeepsCard

/-- THE SECOND FORM's CARD OF 'allongelaw35.CureTells'. -/
def cureTellsUptoCard : Claim7 := { stood := { row := cureTellsUptoRow, standIns := [], harness := (true, "6860a85a6cd37ec49f6e4ad9d4171c247bffd7e41d42ab5d64ad84c82435105d"), looks := false }, kinds := [], alts := [], laidByText := true, laidKinds := [.data, .data, .data, .data, .pinned], laidTests := true, laidLooks := .later }
def CureTellsUptoCardSaid : Prop := Claim7.holds Tryz.pinned (.plain (OpenSpec.upto cureTellsSpec)) cureTellsUptoCard

/-- THE SECOND FORM's CARD OF 'allongelaw35.CureHits'. -/
def cureHitsUptoCard : Claim7 := { stood := { row := cureHitsUptoRow, standIns := [], harness := (true, "6860a85a6cd37ec49f6e4ad9d4171c247bffd7e41d42ab5d64ad84c82435105d"), looks := false }, kinds := [], alts := [], laidByText := true, laidKinds := [.data, .data, .data, .data, .pinned], laidTests := true, laidLooks := .later }
def CureHitsUptoCardSaid : Prop := Claim7.holds Tryz.pinned (.plain (OpenSpec.upto cureHitsSpec)) cureHitsUptoCard

/-- THE SECOND FORM's CARD OF 'allongelaw35.CureWaives'. -/
def cureWaivesUptoCard : Claim7 := { stood := { row := cureWaivesUptoRow, standIns := [], harness := (true, "6860a85a6cd37ec49f6e4ad9d4171c247bffd7e41d42ab5d64ad84c82435105d"), looks := false }, kinds := [], alts := [], laidByText := true, laidKinds := [.data, .data, .data, .data, .pinned], laidTests := true, laidLooks := .later }
def CureWaivesUptoCardSaid : Prop := Claim7.holds Tryz.pinned (.plain (OpenSpec.upto cureWaivesSpec)) cureWaivesUptoCard

/-- THE SECOND FORM's CARD OF 'allongelaw35.CureCorrects'. -/
def cureCorrectsUptoCard : Claim7 := { stood := { row := cureCorrectsUptoRow, standIns := [], harness := (true, "6860a85a6cd37ec49f6e4ad9d4171c247bffd7e41d42ab5d64ad84c82435105d"), looks := false }, kinds := [], alts := [], laidByText := true, laidKinds := [.data, .data, .data, .data, .pinned], laidTests := true, laidLooks := .later }
def CureCorrectsUptoCardSaid : Prop := Claim7.holds Tryz.pinned (.plain (OpenSpec.upto cureCorrectsSpec)) cureCorrectsUptoCard

/-- THE SECOND FORM's CARD OF 'allongelaw35.CureFinds'. -/
def cureFindsUptoCard : Claim7 := { stood := { row := cureFindsUptoRow, standIns := [], harness := (true, "6860a85a6cd37ec49f6e4ad9d4171c247bffd7e41d42ab5d64ad84c82435105d"), looks := false }, kinds := [], alts := [], laidByText := true, laidKinds := [.data, .data, .data, .data, .pinned], laidTests := true, laidLooks := .later }
def CureFindsUptoCardSaid : Prop := Claim7.holds Tryz.pinned (.plain (OpenSpec.upto cureFindsSpec)) cureFindsUptoCard

/-- THE SECOND FORM's CARD OF 'allongelaw35.CureKeeps'. -/
def cureKeepsUptoCard : Claim7 := { stood := { row := cureKeepsUptoRow, standIns := [], harness := (true, "6860a85a6cd37ec49f6e4ad9d4171c247bffd7e41d42ab5d64ad84c82435105d"), looks := false }, kinds := [], alts := [], laidByText := true, laidKinds := [.data, .data, .data, .data, .pinned], laidTests := true, laidLooks := .later }
def CureKeepsUptoCardSaid : Prop := Claim7.holds Tryz.pinned (.plain (OpenSpec.upto cureKeepsSpec)) cureKeepsUptoCard
end Rows
end Go.Proofs.YtcglilececjppaaGreatDoor
