/-
  DERIVED. GIVEN WITH THE SEED: THE CARDS: each row of YtpmicgjdckeejaaGreatDoorRows.lean that lists a variable, with what it lists TIED to the program's text (the seventh form; the later family's looks); each row that meets fmt, with fmt's text TOLD by the authors' own Lean function (tested against real Go, not proved from fmt's source: count such statements apart). THE CARD IS WHAT COUNTS. Prove the row's statement (the work); the ties are given (YtpmicgjdckeejaaGreatDoorTie.lean); close each card by the builder's one call (the guide's Derived/Test/ToyasCard.lean, 'card_holds'). Laid BY PROGRAM, IN A SANDBOX (cutbox-door.mjs). By AI agents, Wed Nov 11 2026. No macro, syntax, notation, axiom, sorry.
-/
import Derived.Test.YtpmicgjdckeejaaGreatDoorRows
import GoSem.ClaimSeven
namespace Go.Proofs.YtpmicgjdckeejaaGreatDoor
namespace Rows

/-- THE TIED CARD OF 'allongelaw34.ExamineConflicts'. -/
def examineConflictsCard : Claim7 := { stood := { row := examineConflictsRow, standIns := [], harness := (true, "7f1ffa1fe8b72dd4ad97d590edce6a8f9bef0eda7dcaa3e737fc5fdfd42e32c2"), looks := false }, kinds := [], alts := [], laidByText := true, laidKinds := [.data, .data], laidTests := true, laidLooks := .later }
def ExamineConflictsCardSaid : Prop := Claim7.holds Tryz.pinned (.plain (OpenSpec.ofChange examineConflictsSpec)) examineConflictsCard

/-- THE TIED CARD OF 'allongelaw34.ExamineDoubts'. -/
def examineDoubtsCard : Claim7 := { stood := { row := examineDoubtsRow, standIns := [], harness := (true, "7f1ffa1fe8b72dd4ad97d590edce6a8f9bef0eda7dcaa3e737fc5fdfd42e32c2"), looks := false }, kinds := [], alts := [], laidByText := true, laidKinds := [.data, .data], laidTests := true, laidLooks := .later }
def ExamineDoubtsCardSaid : Prop := Claim7.holds Tryz.pinned (.plain (OpenSpec.ofChange examineDoubtsSpec)) examineDoubtsCard

/-- THE TIED CARD OF 'allongelaw34.ExamineTells'. -/
def examineTellsCard : Claim7 := { stood := { row := examineTellsRow, standIns := [], harness := (true, "7f1ffa1fe8b72dd4ad97d590edce6a8f9bef0eda7dcaa3e737fc5fdfd42e32c2"), looks := false }, kinds := [], alts := [], laidByText := true, laidKinds := [.data, .data], laidTests := true, laidLooks := .later }
def ExamineTellsCardSaid : Prop := Claim7.holds Tryz.pinned (.plain (OpenSpec.ofChange examineTellsSpec)) examineTellsCard

/-- THE TIED CARD OF 'allongelaw34.ExamineCertain'. -/
def examineCertainCard : Claim7 := { stood := { row := examineCertainRow, standIns := [], harness := (true, "7f1ffa1fe8b72dd4ad97d590edce6a8f9bef0eda7dcaa3e737fc5fdfd42e32c2"), looks := false }, kinds := [], alts := [], laidByText := true, laidKinds := [.data, .data, .data, .pinned], laidTests := true, laidLooks := .later }
def ExamineCertainCardSaid : Prop := Claim7.holds Tryz.pinned (.plain (OpenSpec.ofChange examineCertainSpec)) examineCertainCard

/-- THE TIED CARD OF 'allongelaw34.ExamineKnows'. -/
def examineKnowsCard : Claim7 := { stood := { row := examineKnowsRow, standIns := [], harness := (true, "7f1ffa1fe8b72dd4ad97d590edce6a8f9bef0eda7dcaa3e737fc5fdfd42e32c2"), looks := false }, kinds := [], alts := [], laidByText := true, laidKinds := [.data, .data, .data, .pinned], laidTests := true, laidLooks := .later }
def ExamineKnowsCardSaid : Prop := Claim7.holds Tryz.pinned (.plain (OpenSpec.ofChange examineKnowsSpec)) examineKnowsCard

/-- THE SECOND FORM's CARD OF 'allongelaw34.ExamineConflicts'. -/
def examineConflictsUptoCard : Claim7 := { stood := { row := examineConflictsUptoRow, standIns := [], harness := (true, "7f1ffa1fe8b72dd4ad97d590edce6a8f9bef0eda7dcaa3e737fc5fdfd42e32c2"), looks := false }, kinds := [], alts := [], laidByText := true, laidKinds := [.data, .data], laidTests := true, laidLooks := .later }
def ExamineConflictsUptoCardSaid : Prop := Claim7.holds Tryz.pinned (.plain (OpenSpec.upto examineConflictsSpec)) examineConflictsUptoCard

/-- THE SECOND FORM's CARD OF 'allongelaw34.ExamineDoubts'. -/
def examineDoubtsUptoCard : Claim7 := { stood := { row := examineDoubtsUptoRow, standIns := [], harness := (true, "7f1ffa1fe8b72dd4ad97d590edce6a8f9bef0eda7dcaa3e737fc5fdfd42e32c2"), looks := false }, kinds := [], alts := [], laidByText := true, laidKinds := [.data, .data], laidTests := true, laidLooks := .later }
def ExamineDoubtsUptoCardSaid : Prop := Claim7.holds Tryz.pinned (.plain (OpenSpec.upto examineDoubtsSpec)) examineDoubtsUptoCard

/-- THE SECOND FORM's CARD OF 'allongelaw34.ExamineTells'. -/
def examineTellsUptoCard : Claim7 := { stood := { row := examineTellsUptoRow, standIns := [], harness := (true, "7f1ffa1fe8b72dd4ad97d590edce6a8f9bef0eda7dcaa3e737fc5fdfd42e32c2"), looks := false }, kinds := [], alts := [], laidByText := true, laidKinds := [.data, .data], laidTests := true, laidLooks := .later }
def ExamineTellsUptoCardSaid : Prop := Claim7.holds Tryz.pinned (.plain (OpenSpec.upto examineTellsSpec)) examineTellsUptoCard

/-- THE SECOND FORM's CARD OF 'allongelaw34.ExamineCertain'. -/
def examineCertainUptoCard : Claim7 := { stood := { row := examineCertainUptoRow, standIns := [], harness := (true, "7f1ffa1fe8b72dd4ad97d590edce6a8f9bef0eda7dcaa3e737fc5fdfd42e32c2"), looks := false }, kinds := [], alts := [], laidByText := true, laidKinds := [.data, .data, .data, .pinned], laidTests := true, laidLooks := .later }
def ExamineCertainUptoCardSaid : Prop := Claim7.holds Tryz.pinned (.plain (OpenSpec.upto examineCertainSpec)) examineCertainUptoCard

/-- THE SECOND FORM's CARD OF 'allongelaw34.ExamineKnows'. -/
def examineKnowsUptoCard : Claim7 := { stood := { row := examineKnowsUptoRow, standIns := [], harness := (true, "7f1ffa1fe8b72dd4ad97d590edce6a8f9bef0eda7dcaa3e737fc5fdfd42e32c2"), looks := false }, kinds := [], alts := [], laidByText := true, laidKinds := [.data, .data, .data, .pinned], laidTests := true, laidLooks := .later }
def ExamineKnowsUptoCardSaid : Prop := Claim7.holds Tryz.pinned (.plain (OpenSpec.upto examineKnowsSpec)) examineKnowsUptoCard
end Rows
end Go.Proofs.YtpmicgjdckeejaaGreatDoor
