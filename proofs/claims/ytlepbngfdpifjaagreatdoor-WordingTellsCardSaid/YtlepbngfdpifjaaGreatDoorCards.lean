/-
  DERIVED. GIVEN WITH THE SEED: THE CARDS: each row of YtlepbngfdpifjaaGreatDoorRows.lean that lists a variable, with what it lists TIED to the program's text (the seventh form; the later family's looks); each row that meets fmt, with fmt's text TOLD by the authors' own Lean function (tested against real Go, not proved from fmt's source: count such statements apart). THE CARD IS WHAT COUNTS. Prove the row's statement (the work); the ties are given (YtlepbngfdpifjaaGreatDoorTie.lean); close each card by the builder's one call (the guide's Derived/Test/ToyasCard.lean, 'card_holds'). Laid BY PROGRAM, IN A SANDBOX (cutbox-door.mjs). By AI agents, Wed Nov 11 2026. No macro, syntax, notation, axiom, sorry.
-/
import Derived.Test.YtlepbngfdpifjaaGreatDoorRows
import GoSem.ClaimSeven
namespace Go.Proofs.YtlepbngfdpifjaaGreatDoor
namespace Rows

/-- THE TIED CARD OF 'allongelaw10.WordingTells'. -/
def wordingTellsCard : Claim7 := { stood := { row := wordingTellsRow, standIns := [], harness := (true, "3415f865af602f31a0a8c35ae5d1acbcedf4c6d6d4e36adec5a763d0c50a6c04"), looks := true }, kinds := [], alts := [], laidByText := true, laidKinds := [.data, .data, .data, .data, .sentinel, .sentinel, .pinned], laidTests := true, laidLooks := .later }
def WordingTellsCardSaid : Prop := Claim7.holds Tryz.pinned (.plain (OpenSpec.ofChange wordingTellsSpec)) wordingTellsCard

/-- THE TIED CARD OF 'allongelaw10.WordingBack'. -/
def wordingBackCard : Claim7 := { stood := { row := wordingBackRow, standIns := [], harness := (true, "3415f865af602f31a0a8c35ae5d1acbcedf4c6d6d4e36adec5a763d0c50a6c04"), looks := true }, kinds := [], alts := [], laidByText := true, laidKinds := [.data, .data, .data, .data, .sentinel, .sentinel, .pinned], laidTests := true, laidLooks := .later }
def WordingBackCardSaid : Prop := Claim7.holds Tryz.pinned (.plain (OpenSpec.ofChange wordingBackSpec)) wordingBackCard

/-- THE TIED CARD OF 'allongelaw10.WordingOnly'. -/
def wordingOnlyCard : Claim7 := { stood := { row := wordingOnlyRow, standIns := [], harness := (true, "3415f865af602f31a0a8c35ae5d1acbcedf4c6d6d4e36adec5a763d0c50a6c04"), looks := true }, kinds := [], alts := [], laidByText := true, laidKinds := [.data, .data, .data, .data, .sentinel, .sentinel, .pinned], laidTests := true, laidLooks := .later }
def WordingOnlyCardSaid : Prop := Claim7.holds Tryz.pinned (.plain (OpenSpec.ofChange wordingOnlySpec)) wordingOnlyCard

/-- THE TIED CARD OF 'allongelaw10.WordingParts'. -/
def wordingPartsCard : Claim7 := { stood := { row := wordingPartsRow, standIns := [], harness := (true, "3415f865af602f31a0a8c35ae5d1acbcedf4c6d6d4e36adec5a763d0c50a6c04"), looks := true }, kinds := [], alts := [], laidByText := true, laidKinds := [.data, .data, .data, .data, .sentinel, .sentinel, .pinned], laidTests := true, laidLooks := .later }
def WordingPartsCardSaid : Prop := Claim7.holds Tryz.pinned (.plain (OpenSpec.ofChange wordingPartsSpec)) wordingPartsCard

/-- THE TIED CARD OF 'allongelaw10.WordingRefuses'. -/
def wordingRefusesCard : Claim7 := { stood := { row := wordingRefusesRow, standIns := [], harness := (true, "3415f865af602f31a0a8c35ae5d1acbcedf4c6d6d4e36adec5a763d0c50a6c04"), looks := true }, kinds := [], alts := [], laidByText := true, laidKinds := [.data, .data, .data, .data, .sentinel, .sentinel, .pinned], laidTests := true, laidLooks := .later }
def WordingRefusesCardSaid : Prop := Claim7.holds Tryz.pinned (.plain (OpenSpec.ofChange wordingRefusesSpec)) wordingRefusesCard

/-- THE SECOND FORM's CARD OF 'allongelaw10.WordingTells'. -/
def wordingTellsUptoCard : Claim7 := { stood := { row := wordingTellsUptoRow, standIns := [], harness := (true, "3415f865af602f31a0a8c35ae5d1acbcedf4c6d6d4e36adec5a763d0c50a6c04"), looks := true }, kinds := [], alts := [], laidByText := true, laidKinds := [.data, .data, .data, .data, .sentinel, .sentinel, .pinned], laidTests := true, laidLooks := .later }
def WordingTellsUptoCardSaid : Prop := Claim7.holds Tryz.pinned (.plain (OpenSpec.upto wordingTellsSpec)) wordingTellsUptoCard

/-- THE SECOND FORM's CARD OF 'allongelaw10.WordingBack'. -/
def wordingBackUptoCard : Claim7 := { stood := { row := wordingBackUptoRow, standIns := [], harness := (true, "3415f865af602f31a0a8c35ae5d1acbcedf4c6d6d4e36adec5a763d0c50a6c04"), looks := true }, kinds := [], alts := [], laidByText := true, laidKinds := [.data, .data, .data, .data, .sentinel, .sentinel, .pinned], laidTests := true, laidLooks := .later }
def WordingBackUptoCardSaid : Prop := Claim7.holds Tryz.pinned (.plain (OpenSpec.upto wordingBackSpec)) wordingBackUptoCard

/-- THE SECOND FORM's CARD OF 'allongelaw10.WordingOnly'. -/
def wordingOnlyUptoCard : Claim7 := { stood := { row := wordingOnlyUptoRow, standIns := [], harness := (true, "3415f865af602f31a0a8c35ae5d1acbcedf4c6d6d4e36adec5a763d0c50a6c04"), looks := true }, kinds := [], alts := [], laidByText := true, laidKinds := [.data, .data, .data, .data, .sentinel, .sentinel, .pinned], laidTests := true, laidLooks := .later }
def WordingOnlyUptoCardSaid : Prop := Claim7.holds Tryz.pinned (.plain (OpenSpec.upto wordingOnlySpec)) wordingOnlyUptoCard

/-- THE SECOND FORM's CARD OF 'allongelaw10.WordingParts'. -/
def wordingPartsUptoCard : Claim7 := { stood := { row := wordingPartsUptoRow, standIns := [], harness := (true, "3415f865af602f31a0a8c35ae5d1acbcedf4c6d6d4e36adec5a763d0c50a6c04"), looks := true }, kinds := [], alts := [], laidByText := true, laidKinds := [.data, .data, .data, .data, .sentinel, .sentinel, .pinned], laidTests := true, laidLooks := .later }
def WordingPartsUptoCardSaid : Prop := Claim7.holds Tryz.pinned (.plain (OpenSpec.upto wordingPartsSpec)) wordingPartsUptoCard

/-- THE SECOND FORM's CARD OF 'allongelaw10.WordingRefuses'. -/
def wordingRefusesUptoCard : Claim7 := { stood := { row := wordingRefusesUptoRow, standIns := [], harness := (true, "3415f865af602f31a0a8c35ae5d1acbcedf4c6d6d4e36adec5a763d0c50a6c04"), looks := true }, kinds := [], alts := [], laidByText := true, laidKinds := [.data, .data, .data, .data, .sentinel, .sentinel, .pinned], laidTests := true, laidLooks := .later }
def WordingRefusesUptoCardSaid : Prop := Claim7.holds Tryz.pinned (.plain (OpenSpec.upto wordingRefusesSpec)) wordingRefusesUptoCard
end Rows
end Go.Proofs.YtlepbngfdpifjaaGreatDoor
